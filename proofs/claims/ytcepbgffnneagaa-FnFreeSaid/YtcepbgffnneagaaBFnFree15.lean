/- Contracts of Go functions and plain lemmas over what they compute; printed by the kit's print program or written by hand, joined. -/
import Derived.Test.YtcepbgffnneagaaBFnFree3
import Derived.Test.YtcepbgffnneagaaBFnFree4
import Derived.Test.YtcepbgffnneagaaBFnFree6
import Derived.Test.YtcepbgffnneagaaBFnFree7
import Derived.Test.YtcepbgffnneagaaBFnFree8
import Derived.Test.YtcepbgffnneagaaBFnFree9
import Derived.Test.YtcepbgffnneagaaBFnFree10
import Derived.Test.YtcepbgffnneagaaBFnFree14
section
namespace Go.Proofs.Ytcepbgffnneagaa.Q
open Go.RowKit Go.Proofs.YtcepbgffnneagaaW.PrintWords Go.Proofs.YtcepbgffnneagaaW.PrintLast Go.Proofs.YtcepbgffnneagaaW.PrintMore
attribute [local go_sem] max2_int min2_int max_two min_two max_three min_three max_four min_four   -- for this text's walks alone
set_option linter.unusedVariables false
set_option linter.unusedSimpArgs false

attribute [local go_sem high] eqA27
noncomputable def laws_FnFree.ind (a b : Int) (l : List Int) : Option (Int × Int × Int) := if 1 ≤ (l.length : Int) then impl_InducedOn.f a b (l.drop 1) else none
theorem laws_FnFree.ind_pos {a b : Int} {l : List Int} {r : Int × Int × Int} (h : laws_FnFree.ind a b l = some r) : (1 : Int) ≤ (l.length : Int) := by
  unfold laws_FnFree.ind at h
  split at h
  · assumption
  · cases h
noncomputable def laws_FnFree.cutV : Value → Value
  | .slice A n c => .slice (if c = (1 : Int).toNat then A else A.map (·.add ((1 : Int).toNat * 1))) (n - (1 : Int).toNat) (c - (1 : Int).toNat)
  | v => v
theorem laws_FnFree.ind_calls (a b : Int) (A : Option Addr) (c : Nat) (l : List Int) (r1 r2 r3 : Int) (w : World) (hr : Kd.C (Kd.int .i64) w A l.length l) (hc : l.length ≤ c) (h : laws_FnFree.ind a b l = some (r1, r2, r3)) :
    Calls Try.prog 38 #[.agg #[.int .i64 a, .int .u32 b], laws_FnFree.cutV (.slice A l.length c)] w fun e w' => e = .returned (.tuple #[.agg #[.int .i64 r1, .int .u32 r2], .int .i64 r3]) ∧ Below w.heap.size w w' := by
  have hp := laws_FnFree.ind_pos h
  have h2 : impl_InducedOn.f a b (l.drop (1 : Int).toNat) = some (r1, r2, r3) := by unfold laws_FnFree.ind at h; rw [if_pos hp] at h; exact h
  have hd := Kd.C_drop (m := (1 : Int).toNat) (c := c) hr (by omega) hc
  have e : (l.drop (1 : Int).toNat).length = l.length - (1 : Int).toNat := List.length_drop
  have := impl_InducedOn.calls a b _ (c - (1 : Int).toNat) (l.drop (1 : Int).toNat) r1 r2 r3 w hd (by rw [e]; omega) h2
  rw [e] at this
  exact this
mutual
noncomputable def laws_FnFree.l0 : Nat → List Int → List (S27) → Int → Bool → Int → Bool → Int → Int → Int → Option (Bool)
  | 0, _, _, _, _, _, _, _, _, _ => none
  | k + 1, x1, x5, x6, x8, x9, x10, x11, x1232000, x1232001 => if x11 < (x5.length : Int) then (if 0 ≤ x11 then ((impl_HasPart.f x1232000 x1232001 ((rd_T27 x5 x11).f0) ((rd_T27 x5 x11).f1)).bind fun bt1235 => (if bt1235.2 = 0 then (if x10 = true then (laws_FnFree.l0 k x1 x5 x6 x8 x9 (!bt1235.1) (wrap64 (x11 + 1)) x1232000 x1232001) else (laws_FnFree.l0 k x1 x5 x6 x8 x9 false (wrap64 (x11 + 1)) x1232000 x1232001)) else (some false))) else (none)) else ((impl_FreeGraphs.f k x6 x5).bind fun bt1237 => ((spec_FreeGraphs.f k x6 x5).bind fun bt1241 => (if x9 = 0 then (if (x8 != x10) = true then (laws_FnFree.j1 k x1 x5 x6 x8 bt1241.1 true x1232000 x1232001) else (if bt1237.2 = bt1241.2 then (if bt1237.2 = 0 then ((spec_SameGraphs.f k bt1237.1 bt1241.1).bind fun t1245 => (laws_FnFree.j1 k x1 x5 x6 x8 bt1241.1 (!t1245) x1232000 x1232001)) else (laws_FnFree.j1 k x1 x5 x6 x8 bt1241.1 true x1232000 x1232001)) else (laws_FnFree.j1 k x1 x5 x6 x8 bt1241.1 true x1232000 x1232001))) else (laws_FnFree.j1 k x1 x5 x6 x8 bt1241.1 true x1232000 x1232001))))
noncomputable def laws_FnFree.j1 : Nat → List Int → List (S27) → Int → Bool → List (S27) → Bool → Int → Int → Option (Bool)
  | 0, _, _, _, _, _, _, _, _ => none
  | k + 1, x1, x5, x6, x8, x16, x97, x1232000, x1232001 => if x97 = true then (some false) else ((impl_LeastGraph.f x1232000 x1232001).bind fun bt1246 => (laws_FnFree.l1 k x1 x5 x6 x8 x16 bt1246.2.2 false 0 x1232000 x1232001 bt1246.1 bt1246.2.1))
noncomputable def laws_FnFree.l1 : Nat → List Int → List (S27) → Int → Bool → List (S27) → Int → Bool → Int → Int → Int → Int → Int → Option (Bool)
  | 0, _, _, _, _, _, _, _, _, _, _, _, _ => none
  | k + 1, x1, x5, x6, x8, x16, x19, x20, x21, x1232000, x1232001, x1250000, x1250001 => if x21 < (x16.length : Int) then (if x20 = true then (laws_FnFree.l1 k x1 x5 x6 x8 x16 x19 true (wrap64 (x21 + 1)) x1232000 x1232001 x1250000 x1250001) else (if 0 ≤ x21 then (laws_FnFree.l1 k x1 x5 x6 x8 x16 x19 (((rd_T27 x16 x21).f0) == x1250000 && (((rd_T27 x16 x21).f1) == x1250001)) (wrap64 (x21 + 1)) x1232000 x1232001 x1250000 x1250001) else (none))) else (if x19 = 0 then (laws_FnFree.j3 k x1 x5 x6 x8 (x20 != x8) x1232000 x1232001) else (laws_FnFree.j3 k x1 x5 x6 x8 true x1232000 x1232001))
noncomputable def laws_FnFree.j3 : Nat → List Int → List (S27) → Int → Bool → Bool → Int → Int → Option (Bool)
  | 0, _, _, _, _, _, _, _ => none
  | k + 1, x1, x5, x6, x8, x124, x1232000, x1232001 => if x124 = true then (some false) else (if x6 = 0 then (laws_FnFree.j4 k x1 x5 x6 true x1232000 x1232001) else (laws_FnFree.j4 k x1 x5 x6 (!x8) x1232000 x1232001))
noncomputable def laws_FnFree.j4 : Nat → List Int → List (S27) → Int → Bool → Int → Int → Option (Bool)
  | 0, _, _, _, _, _, _ => none
  | k + 1, x1, x5, x6, x130, x1232000, x1232001 => if x130 = true then (some true) else ((spec_A2Order.f k x1 x6).bind fun t1251 => ((laws_FnFree.ind x1232000 x1232001 t1251).bind fun bt1254 => ((impl_IsFree.f k bt1254.1 bt1254.2.1 x5).bind fun bt1258 => (if bt1254.2.2 = 0 then (if bt1258.2 = 0 then (some bt1258.1) else (some false)) else (some false)))))
end
noncomputable def laws_FnFree.f (k : Nat) (l0 : List Int) (l1 : List Int) : Option (Bool) := (laws_a2Long.f l0 l1).bind fun t1224 => (if t1224 = true then (some true) else ((spec_A2Forbidden.f k l1).bind fun t1225 => ((laws_a2At.f l0 0 5).bind fun t1228 => ((spec_A2Graph.f l0 t1228).bind fun bt1229 => ((impl_IsFree.f k bt1229.1 bt1229.2 t1225).bind fun bt1232 => (laws_FnFree.l0 k l1 t1225 t1228 bt1232.1 bt1232.2 true 0 bt1229.1 bt1229.2))))))
noncomputable def laws_FnFree.T11 : Bool × List (List Nat × List Nat) := (true, [([], []), ([], []), ([], []), ([1, 2], [1, 2]), ([3], [3]), ([0, 4], [0, 4]), ([5], [5]), ([6], [6]), ([6], [6]), ([7, 5, 0, 1, 2, 3, 4, 5, 6, 7], [7]), ([8, 9, 0, 1, 2, 3, 4, 5, 6, 7, 8, 9], [8])])
noncomputable def laws_FnFree.B11 : List Nat := [0, 0, 0, 6, 14, 31, 63, 127, 127, 255, 1023]
theorem laws_FnFree.tab11 : rtab .any (opsOf Try.f12 11) = laws_FnFree.T11 := by kernel_rfl
theorem laws_FnFree.bits11 : waitsOk laws_FnFree.T11.2 laws_FnFree.B11 = true := by kernel_rfl
noncomputable def laws_FnFree.T24 : Bool × List (List Nat × List Nat) := (true, [([], []), ([0], [0]), ([1], [1]), ([1], [1]), ([2, 3, 1], [1, 2, 3]), ([4, 1], [1, 4]), ([1], [1]), ([5, 6, 1], [1, 5, 6]), ([1, 7], [1, 7]), ([8, 1, 0, 1, 2, 3, 4, 5, 6, 7, 8], [0, 8])])
noncomputable def laws_FnFree.B24 : List Nat := [0, 1, 3, 3, 15, 31, 3, 127, 255, 511]
theorem laws_FnFree.tab24 : rtab .any (opsOf Try.f12 24) = laws_FnFree.T24 := by kernel_rfl
theorem laws_FnFree.bits24 : waitsOk laws_FnFree.T24.2 laws_FnFree.B24 = true := by kernel_rfl
noncomputable def laws_FnFree.T29 : Bool × List (List Nat × List Nat) := (true, [([], []), ([], []), ([], []), ([1, 2], [1, 2]), ([3], [3]), ([0, 4, 3], [0, 4]), ([5], [5]), ([6], [6]), ([6], [6]), ([], []), ([9, 7, 5, 0, 1, 2, 3, 4, 5, 6, 7, 9], [7, 9]), ([8, 10, 0, 1, 2, 3, 4, 5, 6, 7, 8, 9, 10], [8])])
noncomputable def laws_FnFree.B29 : List Nat := [0, 0, 0, 6, 14, 31, 63, 127, 127, 0, 767, 2047]
theorem laws_FnFree.tab29 : rtab .any (opsOf Try.f12 29) = laws_FnFree.T29 := by kernel_rfl
theorem laws_FnFree.bits29 : waitsOk laws_FnFree.T29.2 laws_FnFree.B29 = true := by kernel_rfl
theorem laws_FnFree.j1_no (k : Nat) (x1 : List Int) (x5 : List (S27)) (x6 : Int) (x8 : Bool) (x16 : List (S27)) (x1232000 : Int) (x1232001 : Int) : laws_FnFree.j1 k x1 x5 x6 x8 x16 true x1232000 x1232001 ≠ some true := by cases k <;> simp [laws_FnFree.j1]
set_option maxHeartbeats 8000000 in
set_option maxRecDepth 100000 in
theorem laws_FnFree.calls (k : Nat) (A0 : Option Addr) (c0 : Nat) (l0 : List Int) (A1 : Option Addr) (c1 : Nat) (l1 : List Int) (r : Bool) (w : World) (hr0 : Kd.C (Kd.int .u8) w A0 l0.length l0) (hc0 : l0.length ≤ c0) (hr1 : Kd.C (Kd.int .u8) w A1 l1.length l1) (hc1 : l1.length ≤ c1) (h : laws_FnFree.f k l0 l1 = some true) :
    Calls Try.prog 12 #[.slice A0 l0.length c0, .slice A1 l1.length c1] w fun e w' => e = .returned (.bool true) ∧ Below w.heap.size w w' := by
  have hu27 := Try.underlying27
  have HR0 := Aside0.mk hr0
  have HC0 := Aside0.mk hc0
  clear hr0 hc0
  have HR1 := Aside0.mk hr1
  have HC1 := Aside0.mk hc1
  clear hr1 hc1
  have HB := Aside0.mk (Below.refl w.heap.size w)
  have H : ((laws_a2Long.f l0 l1).bind fun t1224 => (if t1224 = true then (some true) else ((spec_A2Forbidden.f k l1).bind fun t1225 => ((laws_a2At.f l0 0 5).bind fun t1228 => ((spec_A2Graph.f l0 t1228).bind fun bt1229 => ((impl_IsFree.f k bt1229.1 bt1229.2 t1225).bind fun bt1232 => (laws_FnFree.l0 k l1 t1225 t1228 bt1232.1 bt1232.2 true 0 bt1229.1 bt1229.2))))))) = some true := h
  clear h
  replace H := Option.bind_eq_some_iff.mp H
  obtain ⟨t1224, A30, H⟩ := H
  replace H : (if t1224 = true then (some true) else ((spec_A2Forbidden.f k l1).bind fun t1225 => ((laws_a2At.f l0 0 5).bind fun t1228 => ((spec_A2Graph.f l0 t1228).bind fun bt1229 => ((impl_IsFree.f k bt1229.1 bt1229.2 t1225).bind fun bt1232 => (laws_FnFree.l0 k l1 t1225 t1228 bt1232.1 bt1232.2 true 0 bt1229.1 bt1229.2)))))) = some true := H
  have A3 := Aside0.mk A30
  clear A30
  by_cases c4 : t1224 = true
  · subst c4
    have H1 : (some true) = some true := rfl
    clear H
    have H := H1
    clear H1
    clear H
    go_enter Try.func12, Try.ntmps12
    go_wp2_with (first | ((with_reducible refine gate_callee (f := 31) rfl ?_); refine goesL_ (some 28) rfl rfl Try.func31 (by kernel_rfl) rfl #[.slice A0 l0.length c0, .slice A1 l1.length c1] rfl (by (try simp only [List.map_toArray, List.map_cons, List.map_nil]); first | done | rfl | (simp only [List.length_drop, List.length_take]; rfl)) ?_; (with_reducible refine (laws_a2Long.calls _ _ l0 _ _ l1 true _ ?side1 ?side2 ?side3 ?side4 A3.out).mono ?_); (case side1 => repeat (first | exact HR0.out | (with_reducible refine Kd.C_alloc ?_ _) | (with_reducible refine Kd.C_drewN ?_ _) | (with_reducible refine Kd.C_drew ?_))); (case side2 => exact HC0.out); (case side3 => repeat (first | exact HR1.out | (with_reducible refine Kd.C_alloc ?_ _) | (with_reducible refine Kd.C_drewN ?_ _) | (with_reducible refine Kd.C_drew ?_))); (case side4 => exact HC1.out); rintro e w' ⟨rfl, ⟨nd, rfl⟩⟩; refine ⟨_, rfl, ?_⟩))
    go_ret
    exact ⟨by first | rfl | (simp [errW_none, errW_some] <;> rfl) | (simp [*, errW_none, errW_some] <;> rfl), by repeat (first | (with_reducible first | exact HB.out | apply below_alloc | apply pw_below_drewN | apply below_drew1) | exact HB.out)⟩
  · replace c4 := Bool.eq_false_iff.mpr c4
    subst c4
    have H1 : ((spec_A2Forbidden.f k l1).bind fun t1225 => ((laws_a2At.f l0 0 5).bind fun t1228 => ((spec_A2Graph.f l0 t1228).bind fun bt1229 => ((impl_IsFree.f k bt1229.1 bt1229.2 t1225).bind fun bt1232 => (laws_FnFree.l0 k l1 t1225 t1228 bt1232.1 bt1232.2 true 0 bt1229.1 bt1229.2))))) = some true := by rw [if_neg (show ¬ (false = true) by decide)] at H; exact H
    clear H
    have H := H1
    clear H1
    replace H := Option.bind_eq_some_iff.mp H
    obtain ⟨t1225, A50, H⟩ := H
    replace H : ((laws_a2At.f l0 0 5).bind fun t1228 => ((spec_A2Graph.f l0 t1228).bind fun bt1229 => ((impl_IsFree.f k bt1229.1 bt1229.2 t1225).bind fun bt1232 => (laws_FnFree.l0 k l1 t1225 t1228 bt1232.1 bt1232.2 true 0 bt1229.1 bt1229.2)))) = some true := H
    have A5 := Aside0.mk A50
    clear A50
    replace H := Option.bind_eq_some_iff.mp H
    obtain ⟨t1228, A60, H⟩ := H
    replace H : ((spec_A2Graph.f l0 t1228).bind fun bt1229 => ((impl_IsFree.f k bt1229.1 bt1229.2 t1225).bind fun bt1232 => (laws_FnFree.l0 k l1 t1225 t1228 bt1232.1 bt1232.2 true 0 bt1229.1 bt1229.2))) = some true := H
    have A6 := Aside0.mk A60
    clear A60
    replace H := Option.bind_eq_some_iff.mp H
    obtain ⟨⟨t1229, t1230⟩, A70, H⟩ := H
    replace H : ((impl_IsFree.f k t1229 t1230 t1225).bind fun bt1232 => (laws_FnFree.l0 k l1 t1225 t1228 bt1232.1 bt1232.2 true 0 t1229 t1230)) = some true := H
    have A7 := Aside0.mk A70
    clear A70
    replace H := Option.bind_eq_some_iff.mp H
    obtain ⟨⟨t1232, t1233⟩, A80, H⟩ := H
    replace H : (laws_FnFree.l0 k l1 t1225 t1228 t1232 t1233 true 0 t1229 t1230) = some true := H
    have A8 := Aside0.mk A80
    clear A80
    have H' := Aside0.mk H
    clear H
    go_enter Try.func12, Try.ntmps12
    go_wp2_with (first | ((with_reducible refine gate_callee (f := 31) rfl ?_); refine goesL_ (some 28) rfl rfl Try.func31 (by kernel_rfl) rfl #[.slice A0 l0.length c0, .slice A1 l1.length c1] rfl (by (try simp only [List.map_toArray, List.map_cons, List.map_nil]); first | done | rfl | (simp only [List.length_drop, List.length_take]; rfl)) ?_; (with_reducible refine (laws_a2Long.calls _ _ l0 _ _ l1 false _ ?side1 ?side2 ?side3 ?side4 A3.out).mono ?_); (case side1 => repeat (first | exact HR0.out | (with_reducible refine Kd.C_alloc ?_ _) | (with_reducible refine Kd.C_drewN ?_ _) | (with_reducible refine Kd.C_drew ?_))); (case side2 => exact HC0.out); (case side3 => repeat (first | exact HR1.out | (with_reducible refine Kd.C_alloc ?_ _) | (with_reducible refine Kd.C_drewN ?_ _) | (with_reducible refine Kd.C_drew ?_))); (case side4 => exact HC1.out); rintro e w' ⟨rfl, ⟨nd, rfl⟩⟩; refine ⟨_, rfl, ?_⟩) | ((with_reducible refine gate_callee (f := 53) rfl ?_); refine goesL_ (some 30) rfl rfl Try.func53 (by kernel_rfl) rfl #[.slice A1 l1.length c1] rfl (by (try simp only [List.map_toArray, List.map_cons, List.map_nil]); first | done | rfl | (simp only [List.length_drop, List.length_take]; rfl)) ?_; (with_reducible refine (spec_A2Forbidden.calls k _ _ l1 t1225 _ ?side1 ?side2 A5.out).mono ?_); (case side1 => repeat (first | exact HR1.out | (with_reducible refine Kd.C_alloc ?_ _) | (with_reducible refine Kd.C_drewN ?_ _) | (with_reducible refine Kd.C_drew ?_))); (case side2 => exact HC1.out); rintro e w9 ⟨v1226, rfl, ho0, hb⟩; refine ⟨_, rfl, ?_⟩; have n0_ := Aside0.mk (Kd.R_lower ho0 (below_size (by repeat (first | (with_reducible first | exact HB.out | apply below_alloc | apply pw_below_drewN | apply below_drew1) | exact HB.out)))); have n1_ := Aside0.mk (below_step (by repeat (first | (with_reducible first | exact HB.out | apply below_alloc | apply pw_below_drewN | apply below_drew1) | exact HB.out)) hb); clear HB; have HO1227 := n0_; have HB := n1_; clear n0_ n1_; (try clear hb); (try clear hb2); (try clear hk); (try clear hi); (try clear ho0)) | ((with_reducible refine gate_callee (f := 32) rfl ?_); refine goesL_ (some 32) rfl rfl Try.func32 (by kernel_rfl) rfl #[.slice A0 l0.length c0, .int .i64 0, .int .i64 5] rfl (by (try simp only [List.map_toArray, List.map_cons, List.map_nil]); first | done | rfl | (simp only [List.length_drop, List.length_take]; rfl)) ?_; (with_reducible refine (laws_a2At.calls _ _ l0 0 5 t1228 _ ?side1 ?side2 A6.out).mono ?_); (case side1 => repeat (first | exact (Kd.C_below HR0.out HB.out) | (with_reducible refine Kd.C_alloc ?_ _) | (with_reducible refine Kd.C_drewN ?_ _) | (with_reducible refine Kd.C_drew ?_))); (case side2 => exact HC0.out); rintro e w' ⟨rfl, ⟨nd, rfl⟩⟩; refine ⟨_, rfl, ?_⟩; (try (rw [drewN_self w9]; generalize hq_ : World.drewN w9 _ = w9; have n0_ : Aside0 (Kd.R k27 27 w9 w.heap.size (fun _ => True) v1226 t1225) := ⟨by rw [← hq_]; exact (by (with_reducible repeat (first | apply Kd.R_alloc | apply Kd.R_drewN | apply Kd.R_drew)); exact HO1227.out)⟩; have n1_ : Aside0 (Below w.heap.size w w9) := ⟨by rw [← hq_]; exact (by repeat (first | (with_reducible first | exact HB.out | apply below_alloc | apply pw_below_drewN | apply below_drew1) | exact HB.out))⟩; clear HO1227 HB hq_; have HO1227 := n0_; have HB := n1_; clear n0_ n1_))) | ((with_reducible refine gate_callee (f := 33) rfl ?_); refine goesL_ (some 35) rfl rfl Try.func33 (by kernel_rfl) rfl #[.slice A0 l0.length c0, .int .i64 t1228] rfl (by (try simp only [List.map_toArray, List.map_cons, List.map_nil]); first | done | rfl | (simp only [List.length_drop, List.length_take]; rfl)) ?_; (with_reducible refine (spec_A2Graph.calls _ _ l0 t1228 t1229 t1230 _ ?side1 ?side2 A7.out).mono ?_); (case side1 => repeat (first | exact (Kd.C_below HR0.out HB.out) | (with_reducible refine Kd.C_alloc ?_ _) | (with_reducible refine Kd.C_drewN ?_ _) | (with_reducible refine Kd.C_drew ?_))); (case side2 => exact HC0.out); rintro e w10 ⟨rfl, hb⟩; refine ⟨_, rfl, ?_⟩; have n0_ := Aside0.mk (Kd.R_below (by (with_reducible repeat (first | apply Kd.R_alloc | apply Kd.R_drewN | apply Kd.R_drew)); exact HO1227.out) hb); have n1_ := Aside0.mk (below_step (by repeat (first | (with_reducible first | exact HB.out | apply below_alloc | apply pw_below_drewN | apply below_drew1) | exact HB.out)) hb); clear HO1227; clear HB; have HO1227 := n0_; have HB := n1_; clear n0_ n1_; (try clear hb); (try clear hb2); (try clear hk); (try clear hi)) | ((with_reducible refine gate_dst (N := 7) rfl ?_); refine box_event ?hg (N := 7) ?hd (cs := #[.int .i64 0, .int .u32 0]) (t := 27) ?hr ?_; (case hd => rfl); (case hg => rfl); (case hr => first | (go_simp; done) | (go_simp; rfl)); intro gb1231 hg w11 hbox hb; have n0_ := Aside0.mk (Kd.R_below (Kd.R_elderB (by (with_reducible repeat (first | apply Kd.R_alloc | apply Kd.R_drewN | apply Kd.R_drew)); exact HO1227.out) gb1231 (Nat.le_of_eq hg.symm)) hb); have n1_ := Aside0.mk (below_step (by repeat (first | (with_reducible first | exact HB.out | apply below_alloc | apply pw_below_drewN | apply below_drew1) | exact HB.out)) hb); have n2_ := Aside0.mk (hbox); have n3_ := Aside0.mk ((by rw [hg]; exact (below_size (by repeat (first | (with_reducible first | exact HB.out | apply below_alloc | apply pw_below_drewN | apply below_drew1) | exact HB.out))) : w.heap.size ≤ gb1231)); have n4_ := Aside0.mk ((by rw [hg]; exact (below_size (by repeat (first | (with_reducible first | exact HB.out | apply below_alloc | apply pw_below_drewN | apply below_drew1) | exact HB.out))) : w.heap.size ≤ gb1231)); clear HO1227; clear HB; have HO1227 := n0_; have HB := n1_; have BK1231 := n2_; have GW1231 := n3_; have GE1231 := n4_; clear n0_ n1_ n2_ n3_ n4_; clear hb hbox hg; have hcz12_0 : w11.cell? ⟨gb1231, 0, none⟩ = some (.int .i64 0) := (blk_cell BK1231.out 0).trans rfl; have hcz12_1 : w11.cell? ⟨gb1231, 1, none⟩ = some (.int .u32 0) := (blk_cell BK1231.out 1).trans rfl; have hfz12_0 := blk_frozen BK1231.out 0; have hfz12_1 := blk_frozen BK1231.out 1; obtain ⟨Ao13, co13, eo13⟩ := Kd.R_slice HO1227.out; subst eo13) | ((with_reducible refine gate_callee (f := 54) rfl ?_); refine goesL_ (some 39) rfl rfl Try.func54 (by kernel_rfl) rfl #[.agg #[.int .i64 t1229, .int .u32 t1230], .slice Ao13 t1225.length co13] rfl (by (try simp only [List.map_toArray, List.map_cons, List.map_nil]); first | done | rfl | (simp only [List.length_drop, List.length_take]; rfl)) ?_; (with_reducible refine (impl_IsFree.calls k t1229 t1230 _ _ t1225 t1232 t1233 _ ?side1 ?side2 A8.out).mono ?_); (case side1 => refine (Kd.R_reads' (e := 27) (base := w.heap.size) (ok := fun k_ => (True ∧ k_ ≠ gb1231)) (n := t1225.length) (c := co13) ?_).2.2; exact (by (with_reducible repeat (first | apply Kd.R_alloc | apply Kd.R_drewN | apply Kd.R_drew)); exact (Kd.R_mono (Kd.R_far (p := ⟨gb1231, 1, none⟩) (Kd.R_far (p := ⟨gb1231, 0, none⟩) (Kd.R_mono HO1227.out (fun k_ hk => (⟨hk, hk.2⟩ : _ ∧ k_ ≠ gb1231))) (fun _ hk => hk.2) (.int .i64 t1229)) (fun _ hk => hk.2) (.int .u32 t1230)) (fun _ h_ => h_.1)))); (case side2 => exact (Kd.R_reads' HO1227.out).2.1); rintro e w14 ⟨rfl, hb⟩; refine ⟨_, rfl, ?_⟩; have n0_ := Aside0.mk (Kd.R_below (by (with_reducible repeat (first | apply Kd.R_alloc | apply Kd.R_drewN | apply Kd.R_drew)); exact (Kd.R_mono (Kd.R_far (p := ⟨gb1231, 1, none⟩) (Kd.R_far (p := ⟨gb1231, 0, none⟩) (Kd.R_mono HO1227.out (fun k_ hk => (⟨hk, hk.2⟩ : _ ∧ k_ ≠ gb1231))) (fun _ hk => hk.2) (.int .i64 t1229)) (fun _ hk => hk.2) (.int .u32 t1230)) (fun _ h_ => h_.1))) hb); have n1_ := Aside0.mk (blk_below (g := gb1231) (o := .cells #[.int .i64 t1229, .int .u32 t1230] 27 (0, 0)) (by (with_reducible repeat (first | refine blk_drewN ?_ _ | refine blk_drew ?_ | refine blk_alloc ?_ _)); refine blk_put (cs := #[.int .i64 t1229, .int .u32 0]) ?_ 1 _ rfl; (with_reducible repeat (first | refine blk_drewN ?_ _ | refine blk_drew ?_ | refine blk_alloc ?_ _)); refine blk_put (cs := #[.int .i64 0, .int .u32 0]) ?_ 0 _ rfl; (with_reducible repeat (first | refine blk_drewN ?_ _ | refine blk_drew ?_ | refine blk_alloc ?_ _)); exact BK1231.out) hb); have n2_ := Aside0.mk (below_step (by repeat (first | (with_reducible first | exact HB.out | apply below_alloc | apply pw_below_drewN | apply below_drew1 | refine below_set ?_ GE1231.out) | exact HB.out)) hb); clear HO1227; clear BK1231; clear HB; have HO1227 := n0_; have BK1231 := n1_; have HB := n2_; clear n0_ n1_ n2_; (try clear hb); (try clear hb2); (try clear hk); (try clear hi)))
    go_loopg [10, 11] k (fun kq v10 v11 w' => ∃ (x10_1 : Bool) (x11_1 : Int), v10 = .bool x10_1 ∧ v11 = .int .i64 x11_1 ∧ Aside0 (laws_FnFree.l0 kq l1 t1225 t1228 t1232 t1233 x10_1 x11_1 t1229 t1230 = some true) ∧ Aside0 (kq ≤ k) ∧ Aside0 (Kd.R k27 27 w' w.heap.size (fun k_ => k_ ≠ gb1231) (.slice Ao13 t1225.length co13) t1225) ∧ Aside0 (w'.heap[gb1231]? = some (.cells #[.int .i64 t1229, .int .u32 t1230] 27 (0, 0))) ∧ Aside0 (Below w.heap.size w w'))
    case atStart => exact ⟨(true), (0), (by first | rfl | (simp; done) | (simp [*]; done)), (by first | rfl | (simp; done) | (simp [*]; done)), H', ⟨Nat.le_refl _⟩, ⟨by (with_reducible repeat (first | apply Kd.R_alloc | apply Kd.R_drewN | apply Kd.R_drew)); exact Kd.R_mono HO1227.out (fun _ hk => hk.2)⟩, ⟨by (with_reducible repeat (first | refine blk_drewN ?_ _ | refine blk_drew ?_ | refine blk_alloc ?_ _)); exact BK1231.out⟩, ⟨by repeat (first | (with_reducible first | exact HB.out | apply below_alloc | apply pw_below_drewN | apply below_drew1 | refine below_set ?_ GE1231.out) | exact HB.out)⟩⟩
    case round =>
      clear H'
      try clear c1
      try clear p2
      try clear c3
      try clear c4
      try clear c5
      try clear c12
      try clear hcz12_0
      try clear hcz12_1
      try clear hfz12_0
      try clear hfz12_1
      obtain ⟨x10_1, x11_1, rfl, rfl, HA, HK1, HO_5, BK1231, HB⟩ := hrel
      cases gk with
      | zero => exact absurd HA.out (by simp [laws_FnFree.l0])
      | succ k1 =>
        have H := HA.out
        clear HA
        simp only [laws_FnFree.l0] at H
        by_cases c15 : x11_1 < (t1225.length : Int)
        · rw [if_pos c15] at H
          have c15b0 : decide (x11_1 < (t1225.length : Int)) = true := decide_eq_true c15
          clear c15
          by_cases c16 : 0 ≤ x11_1
          · rw [if_pos c16] at H
            have c16b0 : decide (0 ≤ x11_1) = true := decide_eq_true c16
            clear c16
            replace H := Option.bind_eq_some_iff.mp H
            obtain ⟨⟨t1235, t1236⟩, A170, H⟩ := H
            replace H : (if t1236 = 0 then (if x10_1 = true then (laws_FnFree.l0 k1 l1 t1225 t1228 t1232 t1233 (!t1235) (wrap64 (x11_1 + 1)) t1229 t1230) else (laws_FnFree.l0 k1 l1 t1225 t1228 t1232 t1233 false (wrap64 (x11_1 + 1)) t1229 t1230)) else (some false)) = some true := H
            have A17 := Aside0.mk A170
            clear A170
            by_cases c18 : t1236 = 0
            · rw [if_pos c18] at H
              have c18b0 : (t1236 == 0) = true := beq_iff_eq.mpr c18
              have c18b1 : (t1236 != 0) = false := bne_eq_false_iff_eq.mpr c18
              clear c18
              by_cases c19 : x10_1 = true
              · subst c19
                have H1 : (laws_FnFree.l0 k1 l1 t1225 t1228 t1232 t1233 (!t1235) (wrap64 (x11_1 + 1)) t1229 t1230) = some true := by rw [if_pos rfl] at H; exact H
                clear H
                have H := H1
                clear H1
                have H' := Aside0.mk H
                clear H
                try go_wp2
                have n0_ := Aside0.mk (Kd.R_drew HO_5.out)
                have n1_ := Aside0.mk (blk_drew BK1231.out)
                have n2_ := Aside0.mk (below_drew1 HB.out)
                clear HO_5
                clear BK1231
                clear HB
                have HO_5 := n0_
                have BK1231 := n1_
                have HB := n2_
                clear n0_ n1_ n2_
                have p1234 : 0 ≤ (x11_1 : Int) := of_decide_eq_true (by first | (with_reducible assumption) | assumption)
                have q1234 : x11_1 < (t1225.length : Int) := of_decide_eq_true (by first | (with_reducible assumption) | assumption)
                obtain ⟨ad1234, e1234, hx1234_0, hx1234_1⟩ := at_T27 (Kd.R_reads' HO_5.out).2.2 x11_1 p1234 q1234
                cases e1234
                replace p1234 := eq_true p1234
                replace q1234 := eq_true q1234
                refine start_ (n := 11) (S := fun w' => w'.cell? ⟨gb1231, 0, none⟩ = some (.int .i64 t1229) ∧ w'.cell? ⟨gb1231, 1, none⟩ = some (.int .u32 t1230) ∧ w'.cell? (ad1234.add ((x11_1).toNat * 2)) = some (.int .i64 ((rd_T27 t1225 x11_1).f0)) ∧ w'.cell? ⟨(ad1234.add ((x11_1).toNat * 2)).block, (ad1234.add ((x11_1).toNat * 2)).off + 1, none⟩ = some (.int .u32 ((rd_T27 t1225 x11_1).f1))) (ds := []) #[false, false, false, false, false, false, false, false, false, false, false] (by kernel_rfl) rfl rfl ⟨(blk_cell BK1231.out 0).trans rfl, (blk_cell BK1231.out 1).trans rfl, hx1234_0, hx1234_1⟩ (fun hHeld => ?_); refine with_tabW laws_FnFree.tab11 laws_FnFree.bits11 (fun HT_ HW_ => ?_)
                generalize wr.drew = w20 at HO_5 BK1231 HB hx1234_0 hx1234_1 hHeld ⊢
                refine pure_ (i := 1) (N := some 50) (v := ?_) (a' := ?_) #[false, true, false, false, false, false, false, false, false, false, false] rfl rfl (any_of HT_.out (by kernel_rfl)) (fun _ _ _ h => h) (Or.inl ⟨by rfl, ?_⟩) ?_ ?_
                rotate_left
                · intro w'
                  go_simp
                  with_reducible rfl
                rotate_left
                · simp only [Act.put, List.setIfInBounds_toArray, List.set_cons_zero, List.set_cons_succ, i64_w, i32_w]
                  rfl
                refine pure_ (i := 2) (N := some 51) (v := ?_) (a' := ?_) #[false, true, true, false, false, false, false, false, false, false, false] rfl rfl (any_of HT_.out (by kernel_rfl)) (fun _ _ _ h => h) (Or.inl ⟨by rfl, ?_⟩) ?_ ?_
                rotate_left
                · intro w'
                  go_simp
                  with_reducible rfl
                rotate_left
                · simp only [Act.put, List.setIfInBounds_toArray, List.set_cons_zero, List.set_cons_succ, i64_w, i32_w]
                  rfl
                refine pure_ (i := 3) (N := some 52) (v := ?_) (a' := ?_) #[false, true, true, true, false, false, false, false, false, false, false] rfl rfl (any_of HT_.out (by kernel_rfl)) (fun _ _ _ h => h) (Or.inl ⟨by rfl, ?_⟩) ?_ ?_
                rotate_left
                · intro w'
                  go_simp
                  with_reducible rfl
                rotate_left
                · simp only [Act.put, List.setIfInBounds_toArray, List.set_cons_zero, List.set_cons_succ, i64_w, i32_w]
                  rfl
                refine take_ (i := 0) (N := some 49) (v := ?_) (a' := ?_) #[true, true, true, true, false, false, false, false, false, false, false] rfl rfl (take_ofW HT_.out HW_.out (by kernel_rfl)) (fun _ _ _ h => h) (Or.inl ⟨by rfl, ?_⟩) hHeld ?_ ?_
                rotate_left
                · rintro w' ⟨s0, s1, s2, s3⟩
                  go_simp
                  with_reducible rfl
                rotate_left
                · simp only [Act.put, List.setIfInBounds_toArray, List.set_cons_zero, List.set_cons_succ, i64_w, i32_w]
                  rfl
                refine take_ (i := 4) (N := some 53) (v := ?_) (a' := ?_) #[true, true, true, true, true, false, false, false, false, false, false] rfl rfl (take_ofW HT_.out HW_.out (by kernel_rfl)) (fun _ _ _ h => h) (Or.inl ⟨by rfl, ?_⟩) hHeld ?_ ?_
                rotate_left
                · rintro w' ⟨s0, s1, s2, s3⟩
                  go_simp
                  with_reducible rfl
                rotate_left
                · simp only [Act.put, List.setIfInBounds_toArray, List.set_cons_zero, List.set_cons_succ, i64_w, i32_w]
                  rfl
                refine one_ (i := 5) (N := some 54) #[true, true, true, true, true, true, false, false, false, false, false] rfl rfl (one_of HT_.out (by kernel_rfl)) (by decide) (fun K hK => ?_)
                refine goes_ Try.func36 (by kernel_rfl) rfl #[.agg #[.int .i64 t1229, .int .u32 t1230], .agg #[.int .i64 ((rd_T27 t1225 x11_1).f0), .int .u32 ((rd_T27 t1225 x11_1).f1)]] (by rfl) rfl rfl (by (try simp only [List.map_toArray, List.map_cons, List.map_nil]); first | done | rfl | (simp only [List.length_drop, List.length_take]; rfl)) ?_
                with_reducible refine (impl_HasPart.calls t1229 t1230 ((rd_T27 t1225 x11_1).f0) ((rd_T27 t1225 x11_1).f1) t1235 t1236 _ A17.out).mono ?_
                rintro e w21 ⟨rfl, hb⟩
                have HS2_ := (hb.cell (World.block_lt_of_cell? _ _ (hHeld.2.2.1))).trans (hHeld.2.2.1)
                have HS3_ := (hb.cell (World.block_lt_of_cell? _ _ (hHeld.2.2.2))).trans (hHeld.2.2.2)
                refine ⟨_, rfl, ?_⟩
                have n0_ := Aside0.mk (Kd.R_below (by (with_reducible repeat (first | apply Kd.R_alloc | apply Kd.R_drewN | apply Kd.R_drew)); exact HO_5.out) hb)
                have n1_ := Aside0.mk (blk_below (g := gb1231) (o := .cells #[.int .i64 t1229, .int .u32 t1230] 27 (0, 0)) (by (with_reducible repeat (first | refine blk_drewN ?_ _ | refine blk_drew ?_ | refine blk_alloc ?_ _)); exact BK1231.out) hb)
                have n2_ := Aside0.mk (below_step (by repeat (first | (with_reducible first | exact HB.out | apply below_alloc | apply pw_below_drewN | apply below_drew1 | refine below_set ?_ GE1231.out) | exact HB.out)) hb)
                clear HO_5
                clear BK1231
                clear HB
                have HO_5 := n0_
                have BK1231 := n1_
                have HB := n2_
                clear n0_ n1_ n2_
                (try clear hb)
                (try clear hb2)
                (try clear hk)
                (try clear hi)
                refine hK.out _ _ ⟨(blk_cell BK1231.out 0).trans rfl, (blk_cell BK1231.out 1).trans rfl, HS2_, HS3_⟩ (fun hHeld => ?_)
                clear hK K
                refine norm_ (a' := ?_) ?_ ?_
                rotate_left
                · show Act.put _ (some 54) _ = _
                  simp only [Act.put, List.setIfInBounds_toArray, List.set_cons_zero, List.set_cons_succ, i64_w, i32_w]
                  rfl
                refine pure_ (i := 6) (N := some 48) (v := ?_) (a' := ?_) #[true, true, true, true, true, true, true, false, false, false, false] rfl rfl (any_of HT_.out (by kernel_rfl)) (fun _ _ _ h => h) (Or.inl ⟨by rfl, ?_⟩) ?_ ?_
                rotate_left
                · intro w'
                  go_simp
                  with_reducible rfl
                rotate_left
                · simp only [Act.put, List.setIfInBounds_toArray, List.set_cons_zero, List.set_cons_succ, i64_w, i32_w]
                  rfl
                refine pure_ (i := 7) (N := some 55) (v := ?_) (a' := ?_) #[true, true, true, true, true, true, true, true, false, false, false] rfl rfl (any_of HT_.out (by kernel_rfl)) (fun _ _ _ h => h) (Or.inl ⟨by rfl, ?_⟩) ?_ ?_
                rotate_left
                · intro w'
                  go_simp
                  with_reducible rfl
                rotate_left
                · simp only [Act.put, List.setIfInBounds_toArray, List.set_cons_zero, List.set_cons_succ, i64_w, i32_w]
                  rfl
                refine pure_ (i := 8) (N := some 56) (v := ?_) (a' := ?_) #[true, true, true, true, true, true, true, true, true, false, false] rfl rfl (any_of HT_.out (by kernel_rfl)) (fun _ _ _ h => h) (Or.inl ⟨by rfl, ?_⟩) ?_ ?_
                rotate_left
                · intro w'
                  go_simp
                  with_reducible rfl
                rotate_left
                · simp only [Act.put, List.setIfInBounds_toArray, List.set_cons_zero, List.set_cons_succ, i64_w, i32_w]
                  rfl
                refine pure_ (i := 9) (N := some 12) (v := ?_) (a' := ?_) #[true, true, true, true, true, true, true, true, true, true, false] rfl rfl (any_of HT_.out (by kernel_rfl)) (fun _ _ _ h => h) (Or.inl ⟨by rfl, ?_⟩) ?_ ?_
                rotate_left
                · intro w'
                  go_simp
                  with_reducible rfl
                rotate_left
                · simp only [Act.put, List.setIfInBounds_toArray, List.set_cons_zero, List.set_cons_succ, i64_w, i32_w]
                  rfl
                refine pure_ (i := 10) (N := some 13) (v := ?_) (a' := ?_) #[true, true, true, true, true, true, true, true, true, true, true] rfl rfl (any_of HT_.out (by kernel_rfl)) (fun _ _ _ h => h) (Or.inl ⟨by rfl, ?_⟩) ?_ ?_
                rotate_left
                · intro w'
                  go_simp
                  with_reducible rfl
                rotate_left
                · simp only [Act.put, List.setIfInBounds_toArray, List.set_cons_zero, List.set_cons_succ, i64_w, i32_w]
                  rfl
                refine done_ (done_of HT_.out (by kernel_rfl)) ?_
                try go_wp2
                go_roundg k1
                case measure => have := HK1.out; omega
                case rel => exact ⟨(!t1235), (wrap64 (x11_1 + 1)), (by first | rfl | (simp; done) | (simp [*]; done)), (by first | rfl | (simp; done) | (simp [*]; done)), H', ⟨by have := HK1.out; omega⟩, ⟨by (with_reducible repeat (first | apply Kd.R_alloc | apply Kd.R_drewN | apply Kd.R_drew)); exact HO_5.out⟩, ⟨by (with_reducible repeat (first | refine blk_drewN ?_ _ | refine blk_drew ?_ | refine blk_alloc ?_ _)); exact BK1231.out⟩, ⟨by repeat (first | (with_reducible first | exact HB.out | apply below_alloc | apply pw_below_drewN | apply below_drew1 | refine below_set ?_ GE1231.out) | exact HB.out)⟩⟩
              · replace c19 := Bool.eq_false_iff.mpr c19
                subst c19
                have H1 : (laws_FnFree.l0 k1 l1 t1225 t1228 t1232 t1233 false (wrap64 (x11_1 + 1)) t1229 t1230) = some true := by rw [if_neg (show ¬ (false = true) by decide)] at H; exact H
                clear H
                have H := H1
                clear H1
                have H' := Aside0.mk H
                clear H
                try go_wp2
                have n0_ := Aside0.mk (Kd.R_drew HO_5.out)
                have n1_ := Aside0.mk (blk_drew BK1231.out)
                have n2_ := Aside0.mk (below_drew1 HB.out)
                clear HO_5
                clear BK1231
                clear HB
                have HO_5 := n0_
                have BK1231 := n1_
                have HB := n2_
                clear n0_ n1_ n2_
                have p1234 : 0 ≤ (x11_1 : Int) := of_decide_eq_true (by first | (with_reducible assumption) | assumption)
                have q1234 : x11_1 < (t1225.length : Int) := of_decide_eq_true (by first | (with_reducible assumption) | assumption)
                obtain ⟨ad1234, e1234, hx1234_0, hx1234_1⟩ := at_T27 (Kd.R_reads' HO_5.out).2.2 x11_1 p1234 q1234
                cases e1234
                replace p1234 := eq_true p1234
                replace q1234 := eq_true q1234
                refine start_ (n := 11) (S := fun w' => w'.cell? ⟨gb1231, 0, none⟩ = some (.int .i64 t1229) ∧ w'.cell? ⟨gb1231, 1, none⟩ = some (.int .u32 t1230) ∧ w'.cell? (ad1234.add ((x11_1).toNat * 2)) = some (.int .i64 ((rd_T27 t1225 x11_1).f0)) ∧ w'.cell? ⟨(ad1234.add ((x11_1).toNat * 2)).block, (ad1234.add ((x11_1).toNat * 2)).off + 1, none⟩ = some (.int .u32 ((rd_T27 t1225 x11_1).f1))) (ds := []) #[false, false, false, false, false, false, false, false, false, false, false] (by kernel_rfl) rfl rfl ⟨(blk_cell BK1231.out 0).trans rfl, (blk_cell BK1231.out 1).trans rfl, hx1234_0, hx1234_1⟩ (fun hHeld => ?_); refine with_tabW laws_FnFree.tab11 laws_FnFree.bits11 (fun HT_ HW_ => ?_)
                generalize wr.drew = w22 at HO_5 BK1231 HB hx1234_0 hx1234_1 hHeld ⊢
                refine pure_ (i := 1) (N := some 50) (v := ?_) (a' := ?_) #[false, true, false, false, false, false, false, false, false, false, false] rfl rfl (any_of HT_.out (by kernel_rfl)) (fun _ _ _ h => h) (Or.inl ⟨by rfl, ?_⟩) ?_ ?_
                rotate_left
                · intro w'
                  go_simp
                  with_reducible rfl
                rotate_left
                · simp only [Act.put, List.setIfInBounds_toArray, List.set_cons_zero, List.set_cons_succ, i64_w, i32_w]
                  rfl
                refine pure_ (i := 2) (N := some 51) (v := ?_) (a' := ?_) #[false, true, true, false, false, false, false, false, false, false, false] rfl rfl (any_of HT_.out (by kernel_rfl)) (fun _ _ _ h => h) (Or.inl ⟨by rfl, ?_⟩) ?_ ?_
                rotate_left
                · intro w'
                  go_simp
                  with_reducible rfl
                rotate_left
                · simp only [Act.put, List.setIfInBounds_toArray, List.set_cons_zero, List.set_cons_succ, i64_w, i32_w]
                  rfl
                refine pure_ (i := 3) (N := some 52) (v := ?_) (a' := ?_) #[false, true, true, true, false, false, false, false, false, false, false] rfl rfl (any_of HT_.out (by kernel_rfl)) (fun _ _ _ h => h) (Or.inl ⟨by rfl, ?_⟩) ?_ ?_
                rotate_left
                · intro w'
                  go_simp
                  with_reducible rfl
                rotate_left
                · simp only [Act.put, List.setIfInBounds_toArray, List.set_cons_zero, List.set_cons_succ, i64_w, i32_w]
                  rfl
                refine take_ (i := 0) (N := some 49) (v := ?_) (a' := ?_) #[true, true, true, true, false, false, false, false, false, false, false] rfl rfl (take_ofW HT_.out HW_.out (by kernel_rfl)) (fun _ _ _ h => h) (Or.inl ⟨by rfl, ?_⟩) hHeld ?_ ?_
                rotate_left
                · rintro w' ⟨s0, s1, s2, s3⟩
                  go_simp
                  with_reducible rfl
                rotate_left
                · simp only [Act.put, List.setIfInBounds_toArray, List.set_cons_zero, List.set_cons_succ, i64_w, i32_w]
                  rfl
                refine take_ (i := 4) (N := some 53) (v := ?_) (a' := ?_) #[true, true, true, true, true, false, false, false, false, false, false] rfl rfl (take_ofW HT_.out HW_.out (by kernel_rfl)) (fun _ _ _ h => h) (Or.inl ⟨by rfl, ?_⟩) hHeld ?_ ?_
                rotate_left
                · rintro w' ⟨s0, s1, s2, s3⟩
                  go_simp
                  with_reducible rfl
                rotate_left
                · simp only [Act.put, List.setIfInBounds_toArray, List.set_cons_zero, List.set_cons_succ, i64_w, i32_w]
                  rfl
                refine one_ (i := 5) (N := some 54) #[true, true, true, true, true, true, false, false, false, false, false] rfl rfl (one_of HT_.out (by kernel_rfl)) (by decide) (fun K hK => ?_)
                refine goes_ Try.func36 (by kernel_rfl) rfl #[.agg #[.int .i64 t1229, .int .u32 t1230], .agg #[.int .i64 ((rd_T27 t1225 x11_1).f0), .int .u32 ((rd_T27 t1225 x11_1).f1)]] (by rfl) rfl rfl (by (try simp only [List.map_toArray, List.map_cons, List.map_nil]); first | done | rfl | (simp only [List.length_drop, List.length_take]; rfl)) ?_
                with_reducible refine (impl_HasPart.calls t1229 t1230 ((rd_T27 t1225 x11_1).f0) ((rd_T27 t1225 x11_1).f1) t1235 t1236 _ A17.out).mono ?_
                rintro e w23 ⟨rfl, hb⟩
                have HS2_ := (hb.cell (World.block_lt_of_cell? _ _ (hHeld.2.2.1))).trans (hHeld.2.2.1)
                have HS3_ := (hb.cell (World.block_lt_of_cell? _ _ (hHeld.2.2.2))).trans (hHeld.2.2.2)
                refine ⟨_, rfl, ?_⟩
                have n0_ := Aside0.mk (Kd.R_below (by (with_reducible repeat (first | apply Kd.R_alloc | apply Kd.R_drewN | apply Kd.R_drew)); exact HO_5.out) hb)
                have n1_ := Aside0.mk (blk_below (g := gb1231) (o := .cells #[.int .i64 t1229, .int .u32 t1230] 27 (0, 0)) (by (with_reducible repeat (first | refine blk_drewN ?_ _ | refine blk_drew ?_ | refine blk_alloc ?_ _)); exact BK1231.out) hb)
                have n2_ := Aside0.mk (below_step (by repeat (first | (with_reducible first | exact HB.out | apply below_alloc | apply pw_below_drewN | apply below_drew1 | refine below_set ?_ GE1231.out) | exact HB.out)) hb)
                clear HO_5
                clear BK1231
                clear HB
                have HO_5 := n0_
                have BK1231 := n1_
                have HB := n2_
                clear n0_ n1_ n2_
                (try clear hb)
                (try clear hb2)
                (try clear hk)
                (try clear hi)
                refine hK.out _ _ ⟨(blk_cell BK1231.out 0).trans rfl, (blk_cell BK1231.out 1).trans rfl, HS2_, HS3_⟩ (fun hHeld => ?_)
                clear hK K
                refine norm_ (a' := ?_) ?_ ?_
                rotate_left
                · show Act.put _ (some 54) _ = _
                  simp only [Act.put, List.setIfInBounds_toArray, List.set_cons_zero, List.set_cons_succ, i64_w, i32_w]
                  rfl
                refine pure_ (i := 6) (N := some 48) (v := ?_) (a' := ?_) #[true, true, true, true, true, true, true, false, false, false, false] rfl rfl (any_of HT_.out (by kernel_rfl)) (fun _ _ _ h => h) (Or.inl ⟨by rfl, ?_⟩) ?_ ?_
                rotate_left
                · intro w'
                  go_simp
                  with_reducible rfl
                rotate_left
                · simp only [Act.put, List.setIfInBounds_toArray, List.set_cons_zero, List.set_cons_succ, i64_w, i32_w]
                  rfl
                refine pure_ (i := 7) (N := some 55) (v := ?_) (a' := ?_) #[true, true, true, true, true, true, true, true, false, false, false] rfl rfl (any_of HT_.out (by kernel_rfl)) (fun _ _ _ h => h) (Or.inl ⟨by rfl, ?_⟩) ?_ ?_
                rotate_left
                · intro w'
                  go_simp
                  with_reducible rfl
                rotate_left
                · simp only [Act.put, List.setIfInBounds_toArray, List.set_cons_zero, List.set_cons_succ, i64_w, i32_w]
                  rfl
                refine pure_ (i := 8) (N := some 56) (v := ?_) (a' := ?_) #[true, true, true, true, true, true, true, true, true, false, false] rfl rfl (any_of HT_.out (by kernel_rfl)) (fun _ _ _ h => h) (Or.inl ⟨by rfl, ?_⟩) ?_ ?_
                rotate_left
                · intro w'
                  go_simp
                  with_reducible rfl
                rotate_left
                · simp only [Act.put, List.setIfInBounds_toArray, List.set_cons_zero, List.set_cons_succ, i64_w, i32_w]
                  rfl
                refine pure_ (i := 9) (N := some 12) (v := ?_) (a' := ?_) #[true, true, true, true, true, true, true, true, true, true, false] rfl rfl (any_of HT_.out (by kernel_rfl)) (fun _ _ _ h => h) (Or.inl ⟨by rfl, ?_⟩) ?_ ?_
                rotate_left
                · intro w'
                  go_simp
                  with_reducible rfl
                rotate_left
                · simp only [Act.put, List.setIfInBounds_toArray, List.set_cons_zero, List.set_cons_succ, i64_w, i32_w]
                  rfl
                refine pure_ (i := 10) (N := some 13) (v := ?_) (a' := ?_) #[true, true, true, true, true, true, true, true, true, true, true] rfl rfl (any_of HT_.out (by kernel_rfl)) (fun _ _ _ h => h) (Or.inl ⟨by rfl, ?_⟩) ?_ ?_
                rotate_left
                · intro w'
                  go_simp
                  with_reducible rfl
                rotate_left
                · simp only [Act.put, List.setIfInBounds_toArray, List.set_cons_zero, List.set_cons_succ, i64_w, i32_w]
                  rfl
                refine done_ (done_of HT_.out (by kernel_rfl)) ?_
                try go_wp2
                go_roundg k1
                case measure => have := HK1.out; omega
                case rel => exact ⟨(false), (wrap64 (x11_1 + 1)), (by first | rfl | (simp; done) | (simp [*]; done)), (by first | rfl | (simp; done) | (simp [*]; done)), H', ⟨by have := HK1.out; omega⟩, ⟨by (with_reducible repeat (first | apply Kd.R_alloc | apply Kd.R_drewN | apply Kd.R_drew)); exact HO_5.out⟩, ⟨by (with_reducible repeat (first | refine blk_drewN ?_ _ | refine blk_drew ?_ | refine blk_alloc ?_ _)); exact BK1231.out⟩, ⟨by repeat (first | (with_reducible first | exact HB.out | apply below_alloc | apply pw_below_drewN | apply below_drew1 | refine below_set ?_ GE1231.out) | exact HB.out)⟩⟩
            · rw [if_neg c18] at H
              have c18b0 : (t1236 == 0) = false := beq_eq_false_iff_ne.mpr c18
              have c18b1 : (t1236 != 0) = true := bne_iff_ne.mpr c18
              exact absurd H (by simp)
          · rw [if_neg c16] at H
            exact absurd H (by simp)
        · rw [if_neg c15] at H
          have c15b0 : decide (x11_1 < (t1225.length : Int)) = false := decide_eq_false c15
          clear c15
          replace H := Option.bind_eq_some_iff.mp H
          obtain ⟨⟨t1237, t1238⟩, A260, H⟩ := H
          replace H : ((spec_FreeGraphs.f k1 t1228 t1225).bind fun bt1241 => (if t1233 = 0 then (if (t1232 != x10_1) = true then (laws_FnFree.j1 k1 l1 t1225 t1228 t1232 bt1241.1 true t1229 t1230) else (if t1238 = bt1241.2 then (if t1238 = 0 then ((spec_SameGraphs.f k1 t1237 bt1241.1).bind fun t1245 => (laws_FnFree.j1 k1 l1 t1225 t1228 t1232 bt1241.1 (!t1245) t1229 t1230)) else (laws_FnFree.j1 k1 l1 t1225 t1228 t1232 bt1241.1 true t1229 t1230)) else (laws_FnFree.j1 k1 l1 t1225 t1228 t1232 bt1241.1 true t1229 t1230))) else (laws_FnFree.j1 k1 l1 t1225 t1228 t1232 bt1241.1 true t1229 t1230))) = some true := H
          have A26 := Aside0.mk A260
          clear A260
          replace H := Option.bind_eq_some_iff.mp H
          obtain ⟨⟨t1241, t1242⟩, A270, H⟩ := H
          replace H : (if t1233 = 0 then (if (t1232 != x10_1) = true then (laws_FnFree.j1 k1 l1 t1225 t1228 t1232 t1241 true t1229 t1230) else (if t1238 = t1242 then (if t1238 = 0 then ((spec_SameGraphs.f k1 t1237 t1241).bind fun t1245 => (laws_FnFree.j1 k1 l1 t1225 t1228 t1232 t1241 (!t1245) t1229 t1230)) else (laws_FnFree.j1 k1 l1 t1225 t1228 t1232 t1241 true t1229 t1230)) else (laws_FnFree.j1 k1 l1 t1225 t1228 t1232 t1241 true t1229 t1230))) else (laws_FnFree.j1 k1 l1 t1225 t1228 t1232 t1241 true t1229 t1230)) = some true := H
          have A27 := Aside0.mk A270
          clear A270
          have HC28 := Aside0.mk H
          clear H
          go_upto_region 17 with (first | ((with_reducible refine gate_callee (f := 55) rfl ?_); refine goesL_ (some 67) rfl rfl Try.func55 (by kernel_rfl) rfl #[.int .i64 t1228, .slice Ao13 t1225.length co13] rfl (by (try simp only [List.map_toArray, List.map_cons, List.map_nil]); first | done | rfl | (simp only [List.length_drop, List.length_take]; rfl)) ?_; (with_reducible refine (impl_FreeGraphs.calls k1 t1228 _ _ t1225 t1237 t1238 _ ?side1 ?side2 A26.out).mono ?_); (case side1 => repeat (first | exact (Kd.R_reads' HO_5.out).2.2 | (with_reducible refine Kd.C_alloc ?_ _) | (with_reducible refine Kd.C_drewN ?_ _) | (with_reducible refine Kd.C_drew ?_))); (case side2 => exact (Kd.R_reads' HO_5.out).2.1); rintro e w29 ⟨v1239, rfl, ho0, hb⟩; refine ⟨_, rfl, ?_⟩; have n0_ := Aside0.mk (Kd.R_elder' (by (with_reducible repeat (first | apply Kd.R_alloc | apply Kd.R_drewN | apply Kd.R_drew)); exact HO_5.out) (Kd.R_base ho0) hb); have n1_ := Aside0.mk (Kd.R_lower (Kd.R_newB (Kd.R_new' ho0 (Kd.R_lt (by (with_reducible repeat (first | apply Kd.R_alloc | apply Kd.R_drewN | apply Kd.R_drew)); exact HO_5.out))) (g := gb1231) (o := .cells #[.int .i64 t1229, .int .u32 t1230] 27 (0, 0)) (by (with_reducible repeat (first | refine blk_drewN ?_ _ | refine blk_drew ?_ | refine blk_alloc ?_ _)); exact BK1231.out)) (below_size (by repeat (first | (with_reducible first | exact HB.out | apply below_alloc | apply pw_below_drewN | apply below_drew1 | refine below_set ?_ GE1231.out) | exact HB.out)))); have n2_ := Aside0.mk (blk_below (g := gb1231) (o := .cells #[.int .i64 t1229, .int .u32 t1230] 27 (0, 0)) (by (with_reducible repeat (first | refine blk_drewN ?_ _ | refine blk_drew ?_ | refine blk_alloc ?_ _)); exact BK1231.out) hb); have n3_ := Aside0.mk (below_step (by repeat (first | (with_reducible first | exact HB.out | apply below_alloc | apply pw_below_drewN | apply below_drew1 | refine below_set ?_ GE1231.out) | exact HB.out)) hb); clear HO_5; clear BK1231; clear HB; have HO_5 := n0_; have HO1240 := n1_; have BK1231 := n2_; have HB := n3_; clear n0_ n1_ n2_ n3_; (try clear hb); (try clear hb2); (try clear hk); (try clear hi); (try clear ho0)) | ((with_reducible refine gate_callee (f := 56) rfl ?_); refine goesL_ (some 73) rfl rfl Try.func56 (by kernel_rfl) rfl #[.int .i64 t1228, .slice Ao13 t1225.length co13] rfl (by (try simp only [List.map_toArray, List.map_cons, List.map_nil]); first | done | rfl | (simp only [List.length_drop, List.length_take]; rfl)) ?_; (with_reducible refine (spec_FreeGraphs.calls k1 t1228 _ _ t1225 t1241 t1242 _ ?side1 ?side2 A27.out).mono ?_); (case side1 => repeat (first | exact (Kd.R_reads' HO_5.out).2.2 | (with_reducible refine Kd.C_alloc ?_ _) | (with_reducible refine Kd.C_drewN ?_ _) | (with_reducible refine Kd.C_drew ?_))); (case side2 => exact (Kd.R_reads' HO_5.out).2.1); rintro e w30 ⟨v1243, rfl, ho0, hb⟩; refine ⟨_, rfl, ?_⟩; have n0_ := Aside0.mk (Kd.R_elder' (by (with_reducible repeat (first | apply Kd.R_alloc | apply Kd.R_drewN | apply Kd.R_drew)); exact HO_5.out) (Kd.R_base ho0) hb); have n1_ := Aside0.mk (Kd.R_elder' (by (with_reducible repeat (first | apply Kd.R_alloc | apply Kd.R_drewN | apply Kd.R_drew)); exact HO1240.out) (Kd.R_base ho0) hb); have n2_ := Aside0.mk (Kd.R_lower (Kd.R_newB (Kd.R_new' (Kd.R_new' ho0 (Kd.R_lt (by (with_reducible repeat (first | apply Kd.R_alloc | apply Kd.R_drewN | apply Kd.R_drew)); exact HO_5.out))) (Kd.R_lt (by (with_reducible repeat (first | apply Kd.R_alloc | apply Kd.R_drewN | apply Kd.R_drew)); exact HO1240.out))) (g := gb1231) (o := .cells #[.int .i64 t1229, .int .u32 t1230] 27 (0, 0)) (by (with_reducible repeat (first | refine blk_drewN ?_ _ | refine blk_drew ?_ | refine blk_alloc ?_ _)); exact BK1231.out)) (below_size (by repeat (first | (with_reducible first | exact HB.out | apply below_alloc | apply pw_below_drewN | apply below_drew1 | refine below_set ?_ GE1231.out) | exact HB.out)))); have n3_ := Aside0.mk (blk_below (g := gb1231) (o := .cells #[.int .i64 t1229, .int .u32 t1230] 27 (0, 0)) (by (with_reducible repeat (first | refine blk_drewN ?_ _ | refine blk_drew ?_ | refine blk_alloc ?_ _)); exact BK1231.out) hb); have n4_ := Aside0.mk (below_step (by repeat (first | (with_reducible first | exact HB.out | apply below_alloc | apply pw_below_drewN | apply below_drew1 | refine below_set ?_ GE1231.out) | exact HB.out)) hb); clear HO_5; clear HO1240; clear BK1231; clear HB; have HO_5 := n0_; have HO1240 := n1_; have HO1244 := n2_; have BK1231 := n3_; have HB := n4_; clear n0_ n1_ n2_ n3_ n4_; (try clear hb); (try clear hb2); (try clear hk); (try clear hi); (try clear ho0)))
          (try simp only [Act.put, List.setIfInBounds_toArray, List.set_cons_zero, List.set_cons_succ])
          go_cut [97] (fun v97 wc => ∃ (kq : Nat) (x97_27 : Bool), v97 = .bool x97_27 ∧ Aside0 (laws_FnFree.j1 kq l1 t1225 t1228 t1232 t1241 x97_27 t1229 t1230 = some true) ∧ Aside0 (kq ≤ k1) ∧ Aside0 (Kd.R k27 27 wc w.heap.size (fun k_ => some k_ ≠ (v1243 : Value).ownBlock ∧ k_ ≠ gb1231) (.slice Ao13 t1225.length co13) t1225) ∧ Aside0 (Kd.R k27 27 wc w.heap.size (fun k_ => some k_ ≠ ((.slice Ao13 t1225.length co13) : Value).ownBlock ∧ k_ ≠ gb1231) v1243 t1241) ∧ Aside0 (wc.heap[gb1231]? = some (.cells #[.int .i64 t1229, .int .u32 t1230] 27 (0, 0))) ∧ Aside0 (Below w.heap.size w wc))
          case first =>
            have H := HC28.out
            clear HC28
            by_cases c31 : t1233 = 0
            · rw [if_pos c31] at H
              have c31b0 : (t1233 == 0) = true := beq_iff_eq.mpr c31
              have c31b1 : (t1233 != 0) = false := bne_eq_false_iff_eq.mpr c31
              clear c31
              (first | rw [c31b0] | (simp only [i64_w, i32_w]; rw [c31b0]) | skip)
              by_cases c32 : (t1232 != x10_1) = true
              · rw [if_pos c32] at H
                exact absurd H (by apply laws_FnFree.j1_no)
              · rw [if_neg c32] at H
                have c32b0 : (t1232 != x10_1) = false := by simpa using c32
                (try (have c32b1 : decide (t1232 = x10_1) = true := by simpa using c32))
                (try (have c32b2 : (t1232 == x10_1) = true := by simpa using c32))
                clear c32
                by_cases c33 : t1238 = t1242
                · rw [if_pos c33] at H
                  have c33b0 : (t1238 == t1242) = true := beq_iff_eq.mpr c33
                  have c33b1 : (t1238 != t1242) = false := bne_eq_false_iff_eq.mpr c33
                  clear c33
                  by_cases c34 : t1238 = 0
                  · rw [if_pos c34] at H
                    have c34b0 : (t1238 == 0) = true := beq_iff_eq.mpr c34
                    have c34b1 : (t1238 != 0) = false := bne_eq_false_iff_eq.mpr c34
                    clear c34
                    replace H := Option.bind_eq_some_iff.mp H
                    obtain ⟨t1245, A350, H⟩ := H
                    replace H : (laws_FnFree.j1 k1 l1 t1225 t1228 t1232 t1241 (!t1245) t1229 t1230) = some true := H
                    have A35 := Aside0.mk A350
                    clear A350
                    have H' := Aside0.mk H
                    clear H
                    obtain ⟨Ao36, co36, eo36⟩ := Kd.R_slice HO1240.out
                    subst eo36
                    obtain ⟨Ao37, co37, eo37⟩ := Kd.R_slice HO1244.out
                    subst eo37
                    go_wp2_with (first | (go_at_call 57; (with_reducible refine (spec_SameGraphs.calls k1 _ _ t1237 _ _ t1241 t1245 _ ?side1 ?side2 ?side3 ?side4 A35.out).mono ?_); (case side1 => repeat (first | exact (Kd.R_reads' HO1240.out).2.2 | (with_reducible refine Kd.C_alloc ?_ _) | (with_reducible refine Kd.C_drewN ?_ _) | (with_reducible refine Kd.C_drew ?_))); (case side2 => exact (Kd.R_reads' HO1240.out).2.1); (case side3 => repeat (first | exact (Kd.R_reads' HO1244.out).2.2 | (with_reducible refine Kd.C_alloc ?_ _) | (with_reducible refine Kd.C_drewN ?_ _) | (with_reducible refine Kd.C_drew ?_))); (case side4 => exact (Kd.R_reads' HO1244.out).2.1); rintro e w' ⟨rfl, ⟨nd, rfl⟩⟩))
                    go_meet
                    case rel => exact ⟨_, (!t1245), (by first | rfl | (simp; done) | (simp [*]; done)), H', ⟨by have := HK1.out; first | omega | exact Nat.le_refl _⟩, ⟨by (with_reducible repeat (first | apply Kd.R_alloc | apply Kd.R_drewN | apply Kd.R_drew)); exact Kd.R_mono HO_5.out (fun _ hk => ⟨hk.2, hk.1.1⟩)⟩, ⟨by (with_reducible repeat (first | apply Kd.R_alloc | apply Kd.R_drewN | apply Kd.R_drew)); exact Kd.R_mono HO1244.out (fun _ hk => ⟨hk.1.1.2, hk.2⟩)⟩, ⟨by (with_reducible repeat (first | refine blk_drewN ?_ _ | refine blk_drew ?_ | refine blk_alloc ?_ _)); exact BK1231.out⟩, ⟨by repeat (first | (with_reducible first | exact HB.out | apply below_alloc | apply pw_below_drewN | apply below_drew1 | refine below_set ?_ GE1231.out) | exact HB.out)⟩⟩
                  · rw [if_neg c34] at H
                    exact absurd H (by apply laws_FnFree.j1_no)
                · rw [if_neg c33] at H
                  exact absurd H (by apply laws_FnFree.j1_no)
            · rw [if_neg c31] at H
              exact absurd H (by apply laws_FnFree.j1_no)
          case rest =>
            clear HC28
            try clear c1
            try clear p1
            try clear q1
            try clear hx1
            try clear p2
            try clear c3
            try clear c4
            try clear c5
            try clear p6
            try clear c12
            try clear p12
            try clear q12
            try clear hx12
            try clear c15
            try clear c15b0
            try clear c16
            try clear c16b0
            try clear c18
            try clear c18b0
            try clear c18b1
            try clear c19
            try clear c31
            try clear c31b0
            try clear c31b1
            try clear c32
            try clear c32b0
            try clear c32b1
            try clear c32b2
            try clear c33
            try clear c33b0
            try clear c33b1
            try clear c34
            try clear c34b0
            try clear c34b1
            try clear c36
            try clear hcz12_0
            try clear hcz12_1
            try clear hfz12_0
            try clear hfz12_1
            try clear hx1234_0
            try clear hx1234_1
            try clear p1234
            try clear p2
            try clear q1234
            obtain ⟨kq, x97_27, rfl, HA, HJ27, HO_5, HO_16, BK1231, HB⟩ := hcut
            cases kq with
            | zero => exact absurd HA.out (by simp [laws_FnFree.j1])
            | succ kj27 =>
              have H := HA.out
              clear HA
              simp only [laws_FnFree.j1] at H
              by_cases c38 : x97_27 = true
              · subst c38
                have H1 : (some false) = some true := by rw [if_pos rfl] at H; exact H
                clear H
                have H := H1
                clear H1
                exact absurd H (by simp)
              · replace c38 := Bool.eq_false_iff.mpr c38
                subst c38
                have H1 : ((impl_LeastGraph.f t1229 t1230).bind fun bt1246 => (laws_FnFree.l1 kj27 l1 t1225 t1228 t1232 t1241 bt1246.2.2 false 0 t1229 t1230 bt1246.1 bt1246.2.1)) = some true := by rw [if_neg (show ¬ (false = true) by decide)] at H; exact H
                clear H
                have H := H1
                clear H1
                replace H := Option.bind_eq_some_iff.mp H
                obtain ⟨⟨t1246, t1247, t1248⟩, A390, H⟩ := H
                replace H : (laws_FnFree.l1 kj27 l1 t1225 t1228 t1232 t1241 t1248 false 0 t1229 t1230 t1246 t1247) = some true := H
                have A39 := Aside0.mk A390
                clear A390
                have H' := Aside0.mk H
                clear H
                have hcz40_0 : wc.cell? ⟨gb1231, 0, none⟩ = some (.int .i64 t1229) := (blk_cell BK1231.out 0).trans rfl
                have hcz40_1 : wc.cell? ⟨gb1231, 1, none⟩ = some (.int .u32 t1230) := (blk_cell BK1231.out 1).trans rfl
                have hfz40_0 := blk_frozen BK1231.out 0
                have hfz40_1 := blk_frozen BK1231.out 1
                go_wp2_with (first | ((with_reducible refine gate_callee (f := 40) rfl ?_); refine goesL_ (some 100) rfl rfl Try.func40 (by kernel_rfl) rfl #[.agg #[.int .i64 t1229, .int .u32 t1230]] rfl (by (try simp only [List.map_toArray, List.map_cons, List.map_nil]); first | done | rfl | (simp only [List.length_drop, List.length_take]; rfl)) ?_; (with_reducible refine (impl_LeastGraph.calls t1229 t1230 t1246 t1247 t1248 _ A39.out).mono ?_); rintro e w41 ⟨rfl, hb⟩; refine ⟨_, rfl, ?_⟩; have n0_ := Aside0.mk (Kd.R_below (by (with_reducible repeat (first | apply Kd.R_alloc | apply Kd.R_drewN | apply Kd.R_drew)); exact HO_5.out) hb); have n1_ := Aside0.mk (Kd.R_below (by (with_reducible repeat (first | apply Kd.R_alloc | apply Kd.R_drewN | apply Kd.R_drew)); exact HO_16.out) hb); have n2_ := Aside0.mk (blk_below (g := gb1231) (o := .cells #[.int .i64 t1229, .int .u32 t1230] 27 (0, 0)) (by (with_reducible repeat (first | refine blk_drewN ?_ _ | refine blk_drew ?_ | refine blk_alloc ?_ _)); exact BK1231.out) hb); have n3_ := Aside0.mk (below_step (by repeat (first | (with_reducible first | exact HB.out | apply below_alloc | apply pw_below_drewN | apply below_drew1 | refine below_set ?_ GE1231.out) | exact HB.out)) hb); clear HO_5; clear HO_16; clear BK1231; clear HB; have HO_5 := n0_; have HO_16 := n1_; have BK1231 := n2_; have HB := n3_; clear n0_ n1_ n2_ n3_; (try clear hb); (try clear hb2); (try clear hk); (try clear hi)) | ((with_reducible refine gate_dst (N := 18) rfl ?_); refine box_event ?hg (N := 18) ?hd (cs := #[.int .i64 0, .int .u32 0]) (t := 27) ?hr ?_; (case hd => rfl); (case hg => rfl); (case hr => first | (go_simp; done) | (go_simp; rfl)); intro gb1249 hg w42 hbox hb; have n0_ := Aside0.mk (Kd.R_below (Kd.R_elderB (by (with_reducible repeat (first | apply Kd.R_alloc | apply Kd.R_drewN | apply Kd.R_drew)); exact HO_5.out) gb1249 (Nat.le_of_eq hg.symm)) hb); have n1_ := Aside0.mk (Kd.R_below (Kd.R_elderB (by (with_reducible repeat (first | apply Kd.R_alloc | apply Kd.R_drewN | apply Kd.R_drew)); exact HO_16.out) gb1249 (Nat.le_of_eq hg.symm)) hb); have n2_ := Aside0.mk (blk_below (g := gb1231) (o := .cells #[.int .i64 t1229, .int .u32 t1230] 27 (0, 0)) (by (with_reducible repeat (first | refine blk_drewN ?_ _ | refine blk_drew ?_ | refine blk_alloc ?_ _)); exact BK1231.out) hb); have n3_ := Aside0.mk (below_step (by repeat (first | (with_reducible first | exact HB.out | apply below_alloc | apply pw_below_drewN | apply below_drew1 | refine below_set ?_ GE1231.out) | exact HB.out)) hb); have n4_ := Aside0.mk (hbox); have n5_ := Aside0.mk ((by rw [hg]; exact (below_size (by repeat (first | (with_reducible first | exact HB.out | apply below_alloc | apply pw_below_drewN | apply below_drew1 | refine below_set ?_ GE1231.out) | exact HB.out))) : w.heap.size ≤ gb1249)); have n6_ := Aside0.mk ((by rw [hg]; exact (below_size (by repeat (first | (with_reducible first | exact HB.out | apply below_alloc | apply pw_below_drewN | apply below_drew1 | refine below_set ?_ GE1231.out) | exact HB.out))) : w.heap.size ≤ gb1249)); have n7_ := Aside0.mk ((by rw [hg]; exact Nat.ne_of_lt (blk_lt (g := gb1231) (o := .cells #[.int .i64 t1229, .int .u32 t1230] 27 (0, 0)) (by (with_reducible repeat (first | refine blk_drewN ?_ _ | refine blk_drew ?_ | refine blk_alloc ?_ _)); exact BK1231.out)) : gb1231 ≠ gb1249)); have n8_ := Aside0.mk ((by rw [hg]; exact Nat.ne_of_gt (blk_lt (g := gb1231) (o := .cells #[.int .i64 t1229, .int .u32 t1230] 27 (0, 0)) (by (with_reducible repeat (first | refine blk_drewN ?_ _ | refine blk_drew ?_ | refine blk_alloc ?_ _)); exact BK1231.out)) : gb1249 ≠ gb1231)); clear HO_5; clear HO_16; clear BK1231; clear HB; have HO_5 := n0_; have HO_16 := n1_; have BK1231 := n2_; have HB := n3_; have BK1249 := n4_; have GW1249 := n5_; have GE1249 := n6_; have NB1231_1249 := n7_; have NB1249_1231 := n8_; clear n0_ n1_ n2_ n3_ n4_ n5_ n6_ n7_ n8_; clear hb hbox hg; have hnb43 := NB1249_1231.out; have hnc43 := NB1231_1249.out; have hcz44_0 : w42.cell? ⟨gb1249, 0, none⟩ = some (.int .i64 0) := (blk_cell BK1249.out 0).trans rfl; have hcz44_1 : w42.cell? ⟨gb1249, 1, none⟩ = some (.int .u32 0) := (blk_cell BK1249.out 1).trans rfl; have hfz44_0 := blk_frozen BK1249.out 0; have hfz44_1 := blk_frozen BK1249.out 1))
                go_loopg [20, 21] kj27 (fun kq v20 v21 w' => ∃ (x20_3 : Bool) (x21_3 : Int), v20 = .bool x20_3 ∧ v21 = .int .i64 x21_3 ∧ Aside0 (laws_FnFree.l1 kq l1 t1225 t1228 t1232 t1241 t1248 x20_3 x21_3 t1229 t1230 t1246 t1247 = some true) ∧ Aside0 (kq ≤ kj27) ∧ Aside0 (Kd.R k27 27 w' w.heap.size (fun k_ => some k_ ≠ (v1243 : Value).ownBlock ∧ k_ ≠ gb1231 ∧ k_ ≠ gb1249) (.slice Ao13 t1225.length co13) t1225) ∧ Aside0 (Kd.R k27 27 w' w.heap.size (fun k_ => some k_ ≠ ((.slice Ao13 t1225.length co13) : Value).ownBlock ∧ k_ ≠ gb1231 ∧ k_ ≠ gb1249) v1243 t1241) ∧ Aside0 (w'.heap[gb1231]? = some (.cells #[.int .i64 t1229, .int .u32 t1230] 27 (0, 0))) ∧ Aside0 (w'.heap[gb1249]? = some (.cells #[.int .i64 t1246, .int .u32 t1247] 27 (0, 0))) ∧ Aside0 (Below w.heap.size w w'))
                case atStart => exact ⟨(false), (0), (by first | rfl | (simp; done) | (simp [*]; done)), (by first | rfl | (simp; done) | (simp [*]; done)), H', ⟨Nat.le_refl _⟩, ⟨by (with_reducible repeat (first | apply Kd.R_alloc | apply Kd.R_drewN | apply Kd.R_drew)); exact Kd.R_mono (Kd.R_far (p := ⟨gb1249, 1, none⟩) (Kd.R_far (p := ⟨gb1249, 0, none⟩) (Kd.R_mono HO_5.out (fun k_ hk => (⟨hk, hk.2⟩ : _ ∧ k_ ≠ gb1249))) (fun _ hk => hk.2) (.int .i64 t1246)) (fun _ hk => hk.2) (.int .u32 t1247)) (fun _ hk => ⟨hk.1.1.1, ⟨hk.1.1.2, hk.1.2⟩⟩)⟩, ⟨by (with_reducible repeat (first | apply Kd.R_alloc | apply Kd.R_drewN | apply Kd.R_drew)); exact Kd.R_mono (Kd.R_far (p := ⟨gb1249, 1, none⟩) (Kd.R_far (p := ⟨gb1249, 0, none⟩) (Kd.R_mono HO_16.out (fun k_ hk => (⟨hk, hk.2⟩ : _ ∧ k_ ≠ gb1249))) (fun _ hk => hk.2) (.int .i64 t1246)) (fun _ hk => hk.2) (.int .u32 t1247)) (fun _ hk => ⟨hk.1.1.1, ⟨hk.1.1.2, hk.1.2⟩⟩)⟩, ⟨by (with_reducible repeat (first | refine blk_drewN ?_ _ | refine blk_drew ?_ | refine blk_alloc ?_ _)); refine blk_far ?_ NB1231_1249.out _; (with_reducible repeat (first | refine blk_drewN ?_ _ | refine blk_drew ?_ | refine blk_alloc ?_ _)); refine blk_far ?_ NB1231_1249.out _; (with_reducible repeat (first | refine blk_drewN ?_ _ | refine blk_drew ?_ | refine blk_alloc ?_ _)); exact BK1231.out⟩, ⟨by (with_reducible repeat (first | refine blk_drewN ?_ _ | refine blk_drew ?_ | refine blk_alloc ?_ _)); refine blk_put (cs := #[.int .i64 t1246, .int .u32 0]) ?_ 1 _ rfl; (with_reducible repeat (first | refine blk_drewN ?_ _ | refine blk_drew ?_ | refine blk_alloc ?_ _)); refine blk_put (cs := #[.int .i64 0, .int .u32 0]) ?_ 0 _ rfl; (with_reducible repeat (first | refine blk_drewN ?_ _ | refine blk_drew ?_ | refine blk_alloc ?_ _)); exact BK1249.out⟩, ⟨by repeat (first | (with_reducible first | exact HB.out | apply below_alloc | apply pw_below_drewN | apply below_drew1 | refine below_set ?_ GE1231.out | refine below_set ?_ GE1249.out) | exact HB.out)⟩⟩
                case round =>
                  clear H'
                  try clear c1
                  try clear p1
                  try clear q1
                  try clear hx1
                  try clear p2
                  try clear c3
                  try clear c4
                  try clear c5
                  try clear p6
                  try clear c12
                  try clear p12
                  try clear q12
                  try clear hx12
                  try clear c15
                  try clear c15b0
                  try clear c16
                  try clear c16b0
                  try clear c18
                  try clear c18b0
                  try clear c18b1
                  try clear c19
                  try clear c31
                  try clear c31b0
                  try clear c31b1
                  try clear c32
                  try clear c32b0
                  try clear c32b1
                  try clear c32b2
                  try clear c33
                  try clear c33b0
                  try clear c33b1
                  try clear c34
                  try clear c34b0
                  try clear c34b1
                  try clear c36
                  try clear c38
                  try clear c40
                  try clear c43
                  try clear hcz12_0
                  try clear hcz12_1
                  try clear hcz40_0
                  try clear hcz40_1
                  try clear hcz44_0
                  try clear hcz44_1
                  try clear hfz12_0
                  try clear hfz12_1
                  try clear hfz40_0
                  try clear hfz40_1
                  try clear hfz44_0
                  try clear hfz44_1
                  try clear hx1234_0
                  try clear hx1234_1
                  try clear p1
                  try clear p12
                  try clear p1234
                  try clear p2
                  try clear p6
                  try clear q1
                  try clear q12
                  try clear q1234
                  obtain ⟨x20_3, x21_3, rfl, rfl, HA, HK3, HO_5, HO_16, BK1231, BK1249, HB⟩ := hrel
                  cases gk with
                  | zero => exact absurd HA.out (by simp [laws_FnFree.l1])
                  | succ k3 =>
                    have H := HA.out
                    clear HA
                    simp only [laws_FnFree.l1] at H
                    by_cases c45 : x21_3 < (t1241.length : Int)
                    · rw [if_pos c45] at H
                      have c45b0 : decide (x21_3 < (t1241.length : Int)) = true := decide_eq_true c45
                      clear c45
                      by_cases c46 : x20_3 = true
                      · subst c46
                        have H1 : (laws_FnFree.l1 k3 l1 t1225 t1228 t1232 t1241 t1248 true (wrap64 (x21_3 + 1)) t1229 t1230 t1246 t1247) = some true := by rw [if_pos rfl] at H; exact H
                        clear H
                        have H := H1
                        clear H1
                        have H' := Aside0.mk H
                        clear H
                        obtain ⟨Ao47, co47, eo47⟩ := Kd.R_slice HO_16.out
                        subst eo47
                        try go_wp2
                        have n0_ := Aside0.mk (Kd.R_drew HO_5.out)
                        have n1_ := Aside0.mk (Kd.R_drew HO_16.out)
                        have n2_ := Aside0.mk (blk_drew BK1231.out)
                        have n3_ := Aside0.mk (blk_drew BK1249.out)
                        have n4_ := Aside0.mk (below_drew1 HB.out)
                        clear HO_5
                        clear HO_16
                        clear BK1231
                        clear BK1249
                        clear HB
                        have HO_5 := n0_
                        have HO_16 := n1_
                        have BK1231 := n2_
                        have BK1249 := n3_
                        have HB := n4_
                        clear n0_ n1_ n2_ n3_ n4_
                        refine start_ (n := 10) (S := fun w' => True) (ds := []) #[false, false, false, false, false, false, false, false, false, false] (by kernel_rfl) rfl rfl trivial (fun hHeld => ?_); refine with_tabW laws_FnFree.tab24 laws_FnFree.bits24 (fun HT_ HW_ => ?_)
                        generalize wr.drew = w48 at HO_5 HO_16 BK1231 BK1249 HB hHeld ⊢
                        refine pure_ (i := 0) (N := some 109) (v := ?_) (a' := ?_) #[true, false, false, false, false, false, false, false, false, false] rfl rfl (any_of HT_.out (by kernel_rfl)) (fun _ _ _ h => h) (Or.inl ⟨by rfl, ?_⟩) ?_ ?_
                        rotate_left
                        · intro w'
                          go_simp
                          with_reducible rfl
                        rotate_left
                        · simp only [Act.put, List.setIfInBounds_toArray, List.set_cons_zero, List.set_cons_succ, i64_w, i32_w]
                          rfl
                        refine pure_ (i := 1) (N := some 110) (v := ?_) (a' := ?_) #[true, true, false, false, false, false, false, false, false, false] rfl rfl (any_of HT_.out (by kernel_rfl)) (fun _ _ _ h => h) (Or.inl ⟨by rfl, ?_⟩) ?_ ?_
                        rotate_left
                        · intro w'
                          go_simp
                          with_reducible rfl
                        rotate_left
                        · simp only [Act.put, List.setIfInBounds_toArray, List.set_cons_zero, List.set_cons_succ, i64_w, i32_w]
                          rfl
                        refine pure_ (i := 2) (N := some 111) (v := undef) (a' := ?_) #[true, true, true, false, false, false, false, false, false, false] rfl rfl (any_of HT_.out (by kernel_rfl)) (fun _ _ _ h => h) (Or.inr ⟨by rfl, rfl⟩) ?_ ?_
                        rotate_left
                        · simp only [Act.put, List.setIfInBounds_toArray, List.set_cons_zero, List.set_cons_succ, i64_w, i32_w]
                          rfl
                        refine pure_ (i := 3) (N := some 112) (v := undef) (a' := ?_) #[true, true, true, true, false, false, false, false, false, false] rfl rfl (any_of HT_.out (by kernel_rfl)) (fun _ _ _ h => h) (Or.inr ⟨by rfl, rfl⟩) ?_ ?_
                        rotate_left
                        · simp only [Act.put, List.setIfInBounds_toArray, List.set_cons_zero, List.set_cons_succ, i64_w, i32_w]
                          rfl
                        refine pure_ (i := 4) (N := some 113) (v := undef) (a' := ?_) #[true, true, true, true, true, false, false, false, false, false] rfl rfl (any_of HT_.out (by kernel_rfl)) (fun _ _ _ h => h) (Or.inr ⟨by rfl, rfl⟩) ?_ ?_
                        rotate_left
                        · simp only [Act.put, List.setIfInBounds_toArray, List.set_cons_zero, List.set_cons_succ, i64_w, i32_w]
                          rfl
                        refine pure_ (i := 5) (N := some 114) (v := undef) (a' := ?_) #[true, true, true, true, true, true, false, false, false, false] rfl rfl (any_of HT_.out (by kernel_rfl)) (fun _ _ _ h => h) (Or.inr ⟨by rfl, rfl⟩) ?_ ?_
                        rotate_left
                        · simp only [Act.put, List.setIfInBounds_toArray, List.set_cons_zero, List.set_cons_succ, i64_w, i32_w]
                          rfl
                        refine pure_ (i := 6) (N := some 115) (v := undef) (a' := ?_) #[true, true, true, true, true, true, true, false, false, false] rfl rfl (any_of HT_.out (by kernel_rfl)) (fun _ _ _ h => h) (Or.inr ⟨by rfl, rfl⟩) ?_ ?_
                        rotate_left
                        · simp only [Act.put, List.setIfInBounds_toArray, List.set_cons_zero, List.set_cons_succ, i64_w, i32_w]
                          rfl
                        refine pure_ (i := 7) (N := some 116) (v := undef) (a' := ?_) #[true, true, true, true, true, true, true, true, false, false] rfl rfl (any_of HT_.out (by kernel_rfl)) (fun _ _ _ h => h) (Or.inr ⟨by rfl, rfl⟩) ?_ ?_
                        rotate_left
                        · simp only [Act.put, List.setIfInBounds_toArray, List.set_cons_zero, List.set_cons_succ, i64_w, i32_w]
                          rfl
                        refine pure_ (i := 8) (N := some 117) (v := ?_) (a' := ?_) #[true, true, true, true, true, true, true, true, true, false] rfl rfl (any_of HT_.out (by kernel_rfl)) (fun _ _ _ h => h) (Or.inl ⟨by rfl, ?_⟩) ?_ ?_
                        rotate_left
                        · intro w'
                          go_simp
                          with_reducible rfl
                        rotate_left
                        · simp only [Act.put, List.setIfInBounds_toArray, List.set_cons_zero, List.set_cons_succ, i64_w, i32_w]
                          rfl
                        refine pure_ (i := 9) (N := some 20) (v := ?_) (a' := ?_) #[true, true, true, true, true, true, true, true, true, true] rfl rfl (any_of HT_.out (by kernel_rfl)) (fun _ _ _ h => h) (Or.inl ⟨by rfl, ?_⟩) ?_ ?_
                        rotate_left
                        · intro w'
                          go_simp
                          with_reducible rfl
                        rotate_left
                        · simp only [Act.put, List.setIfInBounds_toArray, List.set_cons_zero, List.set_cons_succ, i64_w, i32_w]
                          rfl
                        refine done_ (done_of HT_.out (by kernel_rfl)) ?_
                        try go_wp2
                        go_roundg k3
                        case measure => have := HK1.out; have := HJ27.out; have := HK3.out; omega
                        case rel => exact ⟨(true), (wrap64 (x21_3 + 1)), (by first | rfl | (simp; done) | (simp [*]; done)), (by first | rfl | (simp; done) | (simp [*]; done)), H', ⟨by have := HK1.out; have := HJ27.out; have := HK3.out; omega⟩, ⟨by (with_reducible repeat (first | apply Kd.R_alloc | apply Kd.R_drewN | apply Kd.R_drew)); exact HO_5.out⟩, ⟨by (with_reducible repeat (first | apply Kd.R_alloc | apply Kd.R_drewN | apply Kd.R_drew)); exact HO_16.out⟩, ⟨by (with_reducible repeat (first | refine blk_drewN ?_ _ | refine blk_drew ?_ | refine blk_alloc ?_ _)); exact BK1231.out⟩, ⟨by (with_reducible repeat (first | refine blk_drewN ?_ _ | refine blk_drew ?_ | refine blk_alloc ?_ _)); exact BK1249.out⟩, ⟨by repeat (first | (with_reducible first | exact HB.out | apply below_alloc | apply pw_below_drewN | apply below_drew1 | refine below_set ?_ GE1231.out | refine below_set ?_ GE1249.out) | exact HB.out)⟩⟩
                      · replace c46 := Bool.eq_false_iff.mpr c46
                        subst c46
                        have H1 : (if 0 ≤ x21_3 then (laws_FnFree.l1 k3 l1 t1225 t1228 t1232 t1241 t1248 (((rd_T27 t1241 x21_3).f0) == t1246 && (((rd_T27 t1241 x21_3).f1) == t1247)) (wrap64 (x21_3 + 1)) t1229 t1230 t1246 t1247) else (none)) = some true := by rw [if_neg (show ¬ (false = true) by decide)] at H; exact H
                        clear H
                        have H := H1
                        clear H1
                        by_cases c49 : 0 ≤ x21_3
                        · rw [if_pos c49] at H
                          have c49b0 : decide (0 ≤ x21_3) = true := decide_eq_true c49
                          clear c49
                          have H' := Aside0.mk H
                          clear H
                          obtain ⟨Ao50, co50, eo50⟩ := Kd.R_slice HO_16.out
                          subst eo50
                          try go_wp2
                          have n0_ := Aside0.mk (Kd.R_drew HO_5.out)
                          have n1_ := Aside0.mk (Kd.R_drew HO_16.out)
                          have n2_ := Aside0.mk (blk_drew BK1231.out)
                          have n3_ := Aside0.mk (blk_drew BK1249.out)
                          have n4_ := Aside0.mk (below_drew1 HB.out)
                          clear HO_5
                          clear HO_16
                          clear BK1231
                          clear BK1249
                          clear HB
                          have HO_5 := n0_
                          have HO_16 := n1_
                          have BK1231 := n2_
                          have BK1249 := n3_
                          have HB := n4_
                          clear n0_ n1_ n2_ n3_ n4_
                          have p1250 : 0 ≤ (x21_3 : Int) := of_decide_eq_true (by first | (with_reducible assumption) | assumption)
                          have q1250 : x21_3 < (t1241.length : Int) := of_decide_eq_true (by first | (with_reducible assumption) | assumption)
                          obtain ⟨ad1250, e1250, hx1250_0, hx1250_1⟩ := at_T27 (Kd.R_reads' HO_16.out).2.2 x21_3 p1250 q1250
                          cases e1250
                          replace p1250 := eq_true p1250
                          replace q1250 := eq_true q1250
                          refine start_ (n := 10) (S := fun w' => w'.cell? ⟨gb1249, 0, none⟩ = some (.int .i64 t1246) ∧ w'.cell? ⟨gb1249, 1, none⟩ = some (.int .u32 t1247) ∧ w'.cell? (ad1250.add ((x21_3).toNat * 2)) = some (.int .i64 ((rd_T27 t1241 x21_3).f0)) ∧ w'.cell? ⟨(ad1250.add ((x21_3).toNat * 2)).block, (ad1250.add ((x21_3).toNat * 2)).off + 1, none⟩ = some (.int .u32 ((rd_T27 t1241 x21_3).f1))) (ds := []) #[false, false, false, false, false, false, false, false, false, false] (by kernel_rfl) rfl rfl ⟨(blk_cell BK1249.out 0).trans rfl, (blk_cell BK1249.out 1).trans rfl, hx1250_0, hx1250_1⟩ (fun hHeld => ?_); refine with_tabW laws_FnFree.tab24 laws_FnFree.bits24 (fun HT_ HW_ => ?_)
                          generalize wr.drew = w51 at HO_5 HO_16 BK1231 BK1249 HB hx1250_0 hx1250_1 hHeld ⊢
                          refine pure_ (i := 0) (N := some 109) (v := ?_) (a' := ?_) #[true, false, false, false, false, false, false, false, false, false] rfl rfl (any_of HT_.out (by kernel_rfl)) (fun _ _ _ h => h) (Or.inl ⟨by rfl, ?_⟩) ?_ ?_
                          rotate_left
                          · intro w'
                            go_simp
                            with_reducible rfl
                          rotate_left
                          · simp only [Act.put, List.setIfInBounds_toArray, List.set_cons_zero, List.set_cons_succ, i64_w, i32_w]
                            rfl
                          refine pure_ (i := 1) (N := some 110) (v := ?_) (a' := ?_) #[true, true, false, false, false, false, false, false, false, false] rfl rfl (any_of HT_.out (by kernel_rfl)) (fun _ _ _ h => h) (Or.inl ⟨by rfl, ?_⟩) ?_ ?_
                          rotate_left
                          · intro w'
                            go_simp
                            with_reducible rfl
                          rotate_left
                          · simp only [Act.put, List.setIfInBounds_toArray, List.set_cons_zero, List.set_cons_succ, i64_w, i32_w]
                            rfl
                          refine pure_ (i := 2) (N := some 111) (v := ?_) (a' := ?_) #[true, true, true, false, false, false, false, false, false, false] rfl rfl (any_of HT_.out (by kernel_rfl)) (fun _ _ _ h => h) (Or.inl ⟨by rfl, ?_⟩) ?_ ?_
                          rotate_left
                          · intro w'
                            go_simp
                            with_reducible rfl
                          rotate_left
                          · simp only [Act.put, List.setIfInBounds_toArray, List.set_cons_zero, List.set_cons_succ, i64_w, i32_w]
                            rfl
                          refine pure_ (i := 3) (N := some 112) (v := ?_) (a' := ?_) #[true, true, true, true, false, false, false, false, false, false] rfl rfl (any_of HT_.out (by kernel_rfl)) (fun _ _ _ h => h) (Or.inl ⟨by rfl, ?_⟩) ?_ ?_
                          rotate_left
                          · intro w'
                            go_simp
                            with_reducible rfl
                          rotate_left
                          · simp only [Act.put, List.setIfInBounds_toArray, List.set_cons_zero, List.set_cons_succ, i64_w, i32_w]
                            rfl
                          refine pure_ (i := 4) (N := some 113) (v := ?_) (a' := ?_) #[true, true, true, true, true, false, false, false, false, false] rfl rfl (any_of HT_.out (by kernel_rfl)) (fun _ _ _ h => h) (Or.inl ⟨by rfl, ?_⟩) ?_ ?_
                          rotate_left
                          · intro w'
                            go_simp
                            with_reducible rfl
                          rotate_left
                          · simp only [Act.put, List.setIfInBounds_toArray, List.set_cons_zero, List.set_cons_succ, i64_w, i32_w]
                            rfl
                          refine take_ (i := 5) (N := some 114) (v := ?_) (a' := ?_) #[true, true, true, true, true, true, false, false, false, false] rfl rfl (take_ofW HT_.out HW_.out (by kernel_rfl)) (fun _ _ _ h => h) (Or.inl ⟨by rfl, ?_⟩) hHeld ?_ ?_
                          rotate_left
                          · rintro w' ⟨s0, s1, s2, s3⟩
                            go_simp
                            with_reducible rfl
                          rotate_left
                          · simp only [Act.put, List.setIfInBounds_toArray, List.set_cons_zero, List.set_cons_succ, i64_w, i32_w]
                            rfl
                          refine take_ (i := 6) (N := some 115) (v := ?_) (a' := ?_) #[true, true, true, true, true, true, true, false, false, false] rfl rfl (take_ofW HT_.out HW_.out (by kernel_rfl)) (fun _ _ _ h => h) (Or.inl ⟨by rfl, ?_⟩) hHeld ?_ ?_
                          rotate_left
                          · rintro w' ⟨s0, s1, s2, s3⟩
                            go_simp
                            with_reducible rfl
                          rotate_left
                          · simp only [Act.put, List.setIfInBounds_toArray, List.set_cons_zero, List.set_cons_succ, i64_w, i32_w]
                            rfl
                          refine pure_ (i := 7) (N := some 116) (v := ?_) (a' := ?_) #[true, true, true, true, true, true, true, true, false, false] rfl rfl (any_of HT_.out (by kernel_rfl)) (fun _ _ _ h => h) (Or.inl ⟨by rfl, ?_⟩) ?_ ?_
                          rotate_left
                          · intro w'
                            go_simp
                            with_reducible rfl
                          rotate_left
                          · simp only [Act.put, List.setIfInBounds_toArray, List.set_cons_zero, List.set_cons_succ, i64_w, i32_w]
                            rfl
                          refine pure_ (i := 8) (N := some 117) (v := ?_) (a' := ?_) #[true, true, true, true, true, true, true, true, true, false] rfl rfl (any_of HT_.out (by kernel_rfl)) (fun _ _ _ h => h) (Or.inl ⟨by rfl, ?_⟩) ?_ ?_
                          rotate_left
                          · intro w'
                            go_simp
                            with_reducible rfl
                          rotate_left
                          · simp only [Act.put, List.setIfInBounds_toArray, List.set_cons_zero, List.set_cons_succ, i64_w, i32_w]
                            rfl
                          refine pure_ (i := 9) (N := some 20) (v := ?_) (a' := ?_) #[true, true, true, true, true, true, true, true, true, true] rfl rfl (any_of HT_.out (by kernel_rfl)) (fun _ _ _ h => h) (Or.inl ⟨by rfl, ?_⟩) ?_ ?_
                          rotate_left
                          · intro w'
                            go_simp
                            with_reducible rfl
                          rotate_left
                          · simp only [Act.put, List.setIfInBounds_toArray, List.set_cons_zero, List.set_cons_succ, i64_w, i32_w]
                            rfl
                          refine done_ (done_of HT_.out (by kernel_rfl)) ?_
                          try go_wp2
                          go_roundg k3
                          case measure => have := HK1.out; have := HJ27.out; have := HK3.out; omega
                          case rel => exact ⟨((((rd_T27 t1241 x21_3).f0) == t1246 && (((rd_T27 t1241 x21_3).f1) == t1247))), (wrap64 (x21_3 + 1)), (by first | rfl | (simp; done) | (simp [*]; done)), (by first | rfl | (simp; done) | (simp [*]; done)), H', ⟨by have := HK1.out; have := HJ27.out; have := HK3.out; omega⟩, ⟨by (with_reducible repeat (first | apply Kd.R_alloc | apply Kd.R_drewN | apply Kd.R_drew)); exact HO_5.out⟩, ⟨by (with_reducible repeat (first | apply Kd.R_alloc | apply Kd.R_drewN | apply Kd.R_drew)); exact HO_16.out⟩, ⟨by (with_reducible repeat (first | refine blk_drewN ?_ _ | refine blk_drew ?_ | refine blk_alloc ?_ _)); exact BK1231.out⟩, ⟨by (with_reducible repeat (first | refine blk_drewN ?_ _ | refine blk_drew ?_ | refine blk_alloc ?_ _)); exact BK1249.out⟩, ⟨by repeat (first | (with_reducible first | exact HB.out | apply below_alloc | apply pw_below_drewN | apply below_drew1 | refine below_set ?_ GE1231.out | refine below_set ?_ GE1249.out) | exact HB.out)⟩⟩
                        · rw [if_neg c49] at H
                          exact absurd H (by simp)
                    · rw [if_neg c45] at H
                      have c45b0 : decide (x21_3 < (t1241.length : Int)) = false := decide_eq_false c45
                      clear c45
                      have HC52 := Aside0.mk H
                      clear H
                      obtain ⟨Ao53, co53, eo53⟩ := Kd.R_slice HO_16.out
                      subst eo53
                      go_upto_region 25 with (fail)
                      go_cut [124] (fun v124 wc => ∃ (kq : Nat) (x124_51 : Bool), v124 = .bool x124_51 ∧ Aside0 (laws_FnFree.j3 kq l1 t1225 t1228 t1232 x124_51 t1229 t1230 = some true) ∧ Aside0 (kq ≤ k3) ∧ Aside0 (Kd.R k27 27 wc w.heap.size (fun k_ => k_ ≠ gb1231 ∧ k_ ≠ gb1249) (.slice Ao13 t1225.length co13) t1225) ∧ Aside0 (wc.heap[gb1231]? = some (.cells #[.int .i64 t1229, .int .u32 t1230] 27 (0, 0))) ∧ Aside0 (wc.heap[gb1249]? = some (.cells #[.int .i64 t1246, .int .u32 t1247] 27 (0, 0))) ∧ Aside0 (Below w.heap.size w wc))
                      case first =>
                        have H := HC52.out
                        clear HC52
                        by_cases c54 : t1248 = 0
                        · rw [if_pos c54] at H
                          have c54b0 : (t1248 == 0) = true := beq_iff_eq.mpr c54
                          have c54b1 : (t1248 != 0) = false := bne_eq_false_iff_eq.mpr c54
                          clear c54
                          (first | rw [c54b0] | (simp only [i64_w, i32_w]; rw [c54b0]) | skip)
                          have H' := Aside0.mk H
                          clear H
                          go_wp2
                          go_meet
                          case rel => exact ⟨_, ((x20_3 != t1232)), (by first | rfl | (simp; done) | (simp [*]; done)), H', ⟨by have := HK1.out; have := HJ27.out; have := HK3.out; first | omega | exact Nat.le_refl _⟩, ⟨by (with_reducible repeat (first | apply Kd.R_alloc | apply Kd.R_drewN | apply Kd.R_drew)); exact Kd.R_mono HO_5.out (fun _ hk => ⟨hk.2.1, hk.2.2⟩)⟩, ⟨by (with_reducible repeat (first | refine blk_drewN ?_ _ | refine blk_drew ?_ | refine blk_alloc ?_ _)); exact BK1231.out⟩, ⟨by (with_reducible repeat (first | refine blk_drewN ?_ _ | refine blk_drew ?_ | refine blk_alloc ?_ _)); exact BK1249.out⟩, ⟨by repeat (first | (with_reducible first | exact HB.out | apply below_alloc | apply pw_below_drewN | apply below_drew1 | refine below_set ?_ GE1231.out | refine below_set ?_ GE1249.out) | exact HB.out)⟩⟩
                        · rw [if_neg c54] at H
                          have c54b0 : (t1248 == 0) = false := beq_eq_false_iff_ne.mpr c54
                          have c54b1 : (t1248 != 0) = true := bne_iff_ne.mpr c54
                          (first | rw [c54b0] | (simp only [i64_w, i32_w]; rw [c54b0]) | skip)
                          have H' := Aside0.mk H
                          clear H
                          go_wp2
                          go_meet
                          case rel => exact ⟨_, (true), (by first | rfl | (simp; done) | (simp [*]; done)), H', ⟨by have := HK1.out; have := HJ27.out; have := HK3.out; first | omega | exact Nat.le_refl _⟩, ⟨by (with_reducible repeat (first | apply Kd.R_alloc | apply Kd.R_drewN | apply Kd.R_drew)); exact Kd.R_mono HO_5.out (fun _ hk => ⟨hk.2.1, hk.2.2⟩)⟩, ⟨by (with_reducible repeat (first | refine blk_drewN ?_ _ | refine blk_drew ?_ | refine blk_alloc ?_ _)); exact BK1231.out⟩, ⟨by (with_reducible repeat (first | refine blk_drewN ?_ _ | refine blk_drew ?_ | refine blk_alloc ?_ _)); exact BK1249.out⟩, ⟨by repeat (first | (with_reducible first | exact HB.out | apply below_alloc | apply pw_below_drewN | apply below_drew1 | refine below_set ?_ GE1231.out | refine below_set ?_ GE1249.out) | exact HB.out)⟩⟩
                      case rest =>
                        clear HC52
                        try clear c1
                        try clear p1
                        try clear q1
                        try clear hx1
                        try clear p2
                        try clear c3
                        try clear c4
                        try clear c5
                        try clear p6
                        try clear c12
                        try clear p12
                        try clear q12
                        try clear hx12
                        try clear c15
                        try clear c15b0
                        try clear c16
                        try clear c16b0
                        try clear c18
                        try clear c18b0
                        try clear c18b1
                        try clear c19
                        try clear c31
                        try clear c31b0
                        try clear c31b1
                        try clear c32
                        try clear c32b0
                        try clear c32b1
                        try clear c32b2
                        try clear c33
                        try clear c33b0
                        try clear c33b1
                        try clear c34
                        try clear c34b0
                        try clear c34b1
                        try clear c36
                        try clear c38
                        try clear c40
                        try clear c43
                        try clear c45
                        try clear c45b0
                        try clear c46
                        try clear c49
                        try clear c49b0
                        try clear c54
                        try clear c54b0
                        try clear c54b1
                        try clear hcz12_0
                        try clear hcz12_1
                        try clear hcz40_0
                        try clear hcz40_1
                        try clear hcz44_0
                        try clear hcz44_1
                        try clear hfz12_0
                        try clear hfz12_1
                        try clear hfz40_0
                        try clear hfz40_1
                        try clear hfz44_0
                        try clear hfz44_1
                        try clear hx1234_0
                        try clear hx1234_1
                        try clear hx1250_0
                        try clear hx1250_1
                        try clear p1
                        try clear p12
                        try clear p1234
                        try clear p1250
                        try clear p2
                        try clear p6
                        try clear q1
                        try clear q12
                        try clear q1234
                        try clear q1250
                        obtain ⟨kq, x124_51, rfl, HA, HJ51, HO_5, BK1231, BK1249, HB⟩ := hcut
                        cases kq with
                        | zero => exact absurd HA.out (by simp [laws_FnFree.j3])
                        | succ kj51 =>
                          have H := HA.out
                          clear HA
                          simp only [laws_FnFree.j3] at H
                          by_cases c55 : x124_51 = true
                          · subst c55
                            have H1 : (some false) = some true := by rw [if_pos rfl] at H; exact H
                            clear H
                            have H := H1
                            clear H1
                            exact absurd H (by simp)
                          · replace c55 := Bool.eq_false_iff.mpr c55
                            subst c55
                            have H1 : (if t1228 = 0 then (laws_FnFree.j4 kj51 l1 t1225 t1228 true t1229 t1230) else (laws_FnFree.j4 kj51 l1 t1225 t1228 (!t1232) t1229 t1230)) = some true := by rw [if_neg (show ¬ (false = true) by decide)] at H; exact H
                            clear H
                            have H := H1
                            clear H1
                            have HC56 := Aside0.mk H
                            clear H
                            go_upto_region 27 with (fail)
                            go_cut [130] (fun v130 wc => ∃ (kq : Nat) (x130_55 : Bool), v130 = .bool x130_55 ∧ Aside0 (laws_FnFree.j4 kq l1 t1225 t1228 x130_55 t1229 t1230 = some true) ∧ Aside0 (kq ≤ kj51) ∧ Aside0 (Kd.R k27 27 wc w.heap.size (fun k_ => k_ ≠ gb1231 ∧ k_ ≠ gb1249) (.slice Ao13 t1225.length co13) t1225) ∧ Aside0 (wc.heap[gb1231]? = some (.cells #[.int .i64 t1229, .int .u32 t1230] 27 (0, 0))) ∧ Aside0 (wc.heap[gb1249]? = some (.cells #[.int .i64 t1246, .int .u32 t1247] 27 (0, 0))) ∧ Aside0 (Below w.heap.size w wc))
                            case first =>
                              have H := HC56.out
                              clear HC56
                              by_cases c57 : t1228 = 0
                              · rw [if_pos c57] at H
                                have c57b0 : (t1228 == 0) = true := beq_iff_eq.mpr c57
                                have c57b1 : (t1228 != 0) = false := bne_eq_false_iff_eq.mpr c57
                                clear c57
                                (first | rw [c57b0] | (simp only [i64_w, i32_w]; rw [c57b0]) | skip)
                                have H' := Aside0.mk H
                                clear H
                                go_wp2
                                go_meet
                                case rel => exact ⟨_, (true), (by first | rfl | (simp; done) | (simp [*]; done)), H', ⟨by have := HK1.out; have := HJ27.out; have := HK3.out; have := HJ51.out; first | omega | exact Nat.le_refl _⟩, ⟨by (with_reducible repeat (first | apply Kd.R_alloc | apply Kd.R_drewN | apply Kd.R_drew)); exact HO_5.out⟩, ⟨by (with_reducible repeat (first | refine blk_drewN ?_ _ | refine blk_drew ?_ | refine blk_alloc ?_ _)); exact BK1231.out⟩, ⟨by (with_reducible repeat (first | refine blk_drewN ?_ _ | refine blk_drew ?_ | refine blk_alloc ?_ _)); exact BK1249.out⟩, ⟨by repeat (first | (with_reducible first | exact HB.out | apply below_alloc | apply pw_below_drewN | apply below_drew1 | refine below_set ?_ GE1231.out | refine below_set ?_ GE1249.out) | exact HB.out)⟩⟩
                              · rw [if_neg c57] at H
                                have c57b0 : (t1228 == 0) = false := beq_eq_false_iff_ne.mpr c57
                                have c57b1 : (t1228 != 0) = true := bne_iff_ne.mpr c57
                                (first | rw [c57b0] | (simp only [i64_w, i32_w]; rw [c57b0]) | skip)
                                have H' := Aside0.mk H
                                clear H
                                go_wp2
                                go_meet
                                case rel => exact ⟨_, (!t1232), (by first | rfl | (simp; done) | (simp [*]; done)), H', ⟨by have := HK1.out; have := HJ27.out; have := HK3.out; have := HJ51.out; first | omega | exact Nat.le_refl _⟩, ⟨by (with_reducible repeat (first | apply Kd.R_alloc | apply Kd.R_drewN | apply Kd.R_drew)); exact HO_5.out⟩, ⟨by (with_reducible repeat (first | refine blk_drewN ?_ _ | refine blk_drew ?_ | refine blk_alloc ?_ _)); exact BK1231.out⟩, ⟨by (with_reducible repeat (first | refine blk_drewN ?_ _ | refine blk_drew ?_ | refine blk_alloc ?_ _)); exact BK1249.out⟩, ⟨by repeat (first | (with_reducible first | exact HB.out | apply below_alloc | apply pw_below_drewN | apply below_drew1 | refine below_set ?_ GE1231.out | refine below_set ?_ GE1249.out) | exact HB.out)⟩⟩
                            case rest =>
                              clear HC56
                              try clear c1
                              try clear p1
                              try clear q1
                              try clear hx1
                              try clear p2
                              try clear c3
                              try clear c4
                              try clear c5
                              try clear p6
                              try clear c12
                              try clear p12
                              try clear q12
                              try clear hx12
                              try clear c15
                              try clear c15b0
                              try clear c16
                              try clear c16b0
                              try clear c18
                              try clear c18b0
                              try clear c18b1
                              try clear c19
                              try clear c31
                              try clear c31b0
                              try clear c31b1
                              try clear c32
                              try clear c32b0
                              try clear c32b1
                              try clear c32b2
                              try clear c33
                              try clear c33b0
                              try clear c33b1
                              try clear c34
                              try clear c34b0
                              try clear c34b1
                              try clear c36
                              try clear c38
                              try clear c40
                              try clear c43
                              try clear c45
                              try clear c45b0
                              try clear c46
                              try clear c49
                              try clear c49b0
                              try clear c54
                              try clear c54b0
                              try clear c54b1
                              try clear c55
                              try clear c57
                              try clear c57b0
                              try clear c57b1
                              try clear hcz12_0
                              try clear hcz12_1
                              try clear hcz40_0
                              try clear hcz40_1
                              try clear hcz44_0
                              try clear hcz44_1
                              try clear hfz12_0
                              try clear hfz12_1
                              try clear hfz40_0
                              try clear hfz40_1
                              try clear hfz44_0
                              try clear hfz44_1
                              try clear hx1234_0
                              try clear hx1234_1
                              try clear hx1250_0
                              try clear hx1250_1
                              try clear p1
                              try clear p12
                              try clear p1234
                              try clear p1250
                              try clear p2
                              try clear p6
                              try clear q1
                              try clear q12
                              try clear q1234
                              try clear q1250
                              obtain ⟨kq, x130_55, rfl, HA, HJ55, HO_5, BK1231, BK1249, HB⟩ := hcut
                              cases kq with
                              | zero => exact absurd HA.out (by simp [laws_FnFree.j4])
                              | succ kj55 =>
                                have H := HA.out
                                clear HA
                                simp only [laws_FnFree.j4] at H
                                by_cases c58 : x130_55 = true
                                · subst c58
                                  have H1 : (some true) = some true := rfl
                                  clear H
                                  have H := H1
                                  clear H1
                                  clear H
                                  go_wp2
                                  go_ret
                                  exact ⟨by first | rfl | (simp [errW_none, errW_some] <;> rfl) | (simp [*, errW_none, errW_some] <;> rfl), by repeat (first | (with_reducible first | exact HB.out | apply below_alloc | apply pw_below_drewN | apply below_drew1 | refine below_set ?_ GE1231.out | refine below_set ?_ GE1249.out) | exact HB.out)⟩
                                · replace c58 := Bool.eq_false_iff.mpr c58
                                  subst c58
                                  have H1 : ((spec_A2Order.f kj55 l1 t1228).bind fun t1251 => ((laws_FnFree.ind t1229 t1230 t1251).bind fun bt1254 => ((impl_IsFree.f kj55 bt1254.1 bt1254.2.1 t1225).bind fun bt1258 => (if bt1254.2.2 = 0 then (if bt1258.2 = 0 then (some bt1258.1) else (some false)) else (some false))))) = some true := by rw [if_neg (show ¬ (false = true) by decide)] at H; exact H
                                  clear H
                                  have H := H1
                                  clear H1
                                  replace H := Option.bind_eq_some_iff.mp H
                                  obtain ⟨t1251, A590, H⟩ := H
                                  replace H : ((laws_FnFree.ind t1229 t1230 t1251).bind fun bt1254 => ((impl_IsFree.f kj55 bt1254.1 bt1254.2.1 t1225).bind fun bt1258 => (if bt1254.2.2 = 0 then (if bt1258.2 = 0 then (some bt1258.1) else (some false)) else (some false)))) = some true := H
                                  have A59 := Aside0.mk A590
                                  clear A590
                                  replace H := Option.bind_eq_some_iff.mp H
                                  obtain ⟨⟨t1254, t1255, t1256⟩, A600, H⟩ := H
                                  replace H : ((impl_IsFree.f kj55 t1254 t1255 t1225).bind fun bt1258 => (if t1256 = 0 then (if bt1258.2 = 0 then (some bt1258.1) else (some false)) else (some false))) = some true := H
                                  have A60 := Aside0.mk A600
                                  clear A600
                                  replace H := Option.bind_eq_some_iff.mp H
                                  obtain ⟨⟨t1258, t1259⟩, A610, H⟩ := H
                                  replace H : (if t1256 = 0 then (if t1259 = 0 then (some t1258) else (some false)) else (some false)) = some true := H
                                  have A61 := Aside0.mk A610
                                  clear A610
                                  by_cases c62 : t1256 = 0
                                  · rw [if_pos c62] at H
                                    have c62b0 : (t1256 == 0) = true := beq_iff_eq.mpr c62
                                    have c62b1 : (t1256 != 0) = false := bne_eq_false_iff_eq.mpr c62
                                    clear c62
                                    by_cases c63 : t1259 = 0
                                    · rw [if_pos c63] at H
                                      have c63b0 : (t1259 == 0) = true := beq_iff_eq.mpr c63
                                      have c63b1 : (t1259 != 0) = false := bne_eq_false_iff_eq.mpr c63
                                      clear c63
                                      replace H := Option.some.inj H
                                      try go_wp2
                                      have n0_ := Aside0.mk (Kd.R_drew HO_5.out)
                                      have n1_ := Aside0.mk (blk_drew BK1231.out)
                                      have n2_ := Aside0.mk (blk_drew BK1249.out)
                                      have n3_ := Aside0.mk (below_drew1 HB.out)
                                      clear HO_5
                                      clear BK1231
                                      clear BK1249
                                      clear HB
                                      have HO_5 := n0_
                                      have BK1231 := n1_
                                      have BK1249 := n2_
                                      have HB := n3_
                                      clear n0_ n1_ n2_ n3_
                                      refine start_ (n := 12) (S := fun w' => w'.cell? ⟨gb1231, 0, none⟩ = some (.int .i64 t1229) ∧ w'.cell? ⟨gb1231, 1, none⟩ = some (.int .u32 t1230)) (ds := []) #[false, false, false, false, false, false, false, false, false, false, false, false] (by kernel_rfl) rfl rfl ⟨(blk_cell BK1231.out 0).trans rfl, (blk_cell BK1231.out 1).trans rfl⟩ (fun hHeld => ?_); refine with_tabW laws_FnFree.tab29 laws_FnFree.bits29 (fun HT_ HW_ => ?_)
                                      generalize wc.drew = w64 at HO_5 BK1231 BK1249 HB hHeld ⊢
                                      refine pure_ (i := 1) (N := some 133) (v := ?_) (a' := ?_) #[false, true, false, false, false, false, false, false, false, false, false, false] rfl rfl (any_of HT_.out (by kernel_rfl)) (fun _ _ _ h => h) (Or.inl ⟨by rfl, ?_⟩) ?_ ?_
                                      rotate_left
                                      · intro w'
                                        go_simp
                                        with_reducible rfl
                                      rotate_left
                                      · simp only [Act.put, List.setIfInBounds_toArray, List.set_cons_zero, List.set_cons_succ, i64_w, i32_w]
                                        rfl
                                      refine pure_ (i := 2) (N := some 134) (v := ?_) (a' := ?_) #[false, true, true, false, false, false, false, false, false, false, false, false] rfl rfl (any_of HT_.out (by kernel_rfl)) (fun _ _ _ h => h) (Or.inl ⟨by rfl, ?_⟩) ?_ ?_
                                      rotate_left
                                      · intro w'
                                        go_simp
                                        with_reducible rfl
                                      rotate_left
                                      · simp only [Act.put, List.setIfInBounds_toArray, List.set_cons_zero, List.set_cons_succ, i64_w, i32_w]
                                        rfl
                                      refine take_ (i := 0) (N := some 132) (v := ?_) (a' := ?_) #[true, true, true, false, false, false, false, false, false, false, false, false] rfl rfl (take_ofW HT_.out HW_.out (by kernel_rfl)) (fun _ _ _ h => h) (Or.inl ⟨by rfl, ?_⟩) hHeld ?_ ?_
                                      rotate_left
                                      · rintro w' ⟨s0, s1⟩
                                        go_simp
                                        with_reducible rfl
                                      rotate_left
                                      · simp only [Act.put, List.setIfInBounds_toArray, List.set_cons_zero, List.set_cons_succ, i64_w, i32_w]
                                        rfl
                                      refine join_ (σ := Value × Nat) 2 #[true, true, true, true, true, true, true, true, true, true, false, false] (fun s_ => [(135, s_.1), (137, .tuple #[.agg #[.int .i64 t1254, .int .u32 t1255], .int .i64 t1256]), (22, .pointer (some ⟨s_.2, 0, none⟩)), (136, laws_FnFree.cutV s_.1), (131, .tuple #[.agg #[.int .i64 t1254, .int .u32 t1255], .int .i64 t1256]), (138, .agg #[.int .i64 t1254, .int .u32 t1255]), (139, .int .i64 t1256)]) (fun s_ w' => (w'.cell? ⟨gb1231, 0, none⟩ = some (.int .i64 t1229) ∧ w'.cell? ⟨gb1231, 1, none⟩ = some (.int .u32 t1230)) ∧ (Kd.R (Kd.int .i64) 2 w' w.heap.size (fun _ => True) s_.1 t1251) ∧ (Kd.R k27 27 w' w.heap.size (fun k_ => k_ ≠ gb1231 ∧ k_ ≠ gb1249 ∧ k_ ≠ s_.2) (.slice Ao13 t1225.length co13) t1225) ∧ (w'.heap[gb1231]? = some (.cells #[.int .i64 t1229, .int .u32 t1230] 27 (0, 0))) ∧ (w'.heap[gb1249]? = some (.cells #[.int .i64 t1246, .int .u32 t1247] 27 (0, 0))) ∧ (w'.heap[s_.2]? = some (.cells #[.int .i64 0, .int .u32 0] 27 (0, 0))) ∧ (w.heap.size ≤ s_.2) ∧ (w.heap.size ≤ s_.2) ∧ (gb1231 ≠ s_.2) ∧ (s_.2 ≠ gb1231) ∧ (gb1249 ≠ s_.2) ∧ (s_.2 ≠ gb1249) ∧ (Below w.heap.size w w')) ?_ ?_
                                      rotate_left
                                      · intro hCont
                                        refine two_ (i := 3) (j := 9) (Ni := some 135) (Nj := some 22) #[true, true, true, true, false, false, false, false, false, false, false, false] #[true, true, true, false, false, false, false, false, false, true, false, false] rfl rfl rfl rfl (two_of HT_.out (by kernel_rfl)) (by decide) (by decide) (fun K hK => ?_) (fun K hK => ?_)
                                        · skip
                                          refine goes_ Try.func37 (by kernel_rfl) rfl #[.slice A1 l1.length c1, .int .i64 t1228] (by rfl) rfl rfl (by (try simp only [List.map_toArray, List.map_cons, List.map_nil]); first | done | rfl | (simp only [List.length_drop, List.length_take]; rfl)) ?_
                                          with_reducible refine (spec_A2Order.calls kj55 _ _ l1 t1228 t1251 _ ?side1 ?side2 A59.out).mono ?_
                                          (case side1 => repeat (first | exact (Kd.C_below HR1.out HB.out) | (with_reducible refine Kd.C_alloc ?_ _) | (with_reducible refine Kd.C_drewN ?_ _) | (with_reducible refine Kd.C_drew ?_)))
                                          (case side2 => exact HC1.out)
                                          rintro e w65 ⟨v1252, rfl, ho0, hb⟩
                                          refine ⟨_, rfl, ?_⟩
                                          have n0_ := Aside0.mk (Kd.R_below (by (with_reducible repeat (first | apply Kd.R_alloc | apply Kd.R_drewN | apply Kd.R_drew)); exact HO_5.out) hb)
                                          have n1_ := Aside0.mk (Kd.R_lower ho0 (below_size (by repeat (first | (with_reducible first | exact HB.out | apply below_alloc | apply pw_below_drewN | apply below_drew1 | refine below_set ?_ GE1231.out | refine below_set ?_ GE1249.out) | exact HB.out))))
                                          have n2_ := Aside0.mk (blk_below (g := gb1231) (o := .cells #[.int .i64 t1229, .int .u32 t1230] 27 (0, 0)) (by (with_reducible repeat (first | refine blk_drewN ?_ _ | refine blk_drew ?_ | refine blk_alloc ?_ _)); exact BK1231.out) hb)
                                          have n3_ := Aside0.mk (blk_below (g := gb1249) (o := .cells #[.int .i64 t1246, .int .u32 t1247] 27 (0, 0)) (by (with_reducible repeat (first | refine blk_drewN ?_ _ | refine blk_drew ?_ | refine blk_alloc ?_ _)); exact BK1249.out) hb)
                                          have n4_ := Aside0.mk (below_step (by repeat (first | (with_reducible first | exact HB.out | apply below_alloc | apply pw_below_drewN | apply below_drew1 | refine below_set ?_ GE1231.out | refine below_set ?_ GE1249.out) | exact HB.out)) hb)
                                          clear HO_5
                                          clear BK1231
                                          clear BK1249
                                          clear HB
                                          have HO_5 := n0_
                                          have HO1253 := n1_
                                          have BK1231 := n2_
                                          have BK1249 := n3_
                                          have HB := n4_
                                          clear n0_ n1_ n2_ n3_ n4_
                                          (try clear hb)
                                          (try clear hb2)
                                          (try clear hk)
                                          (try clear hi)
                                          (try clear ho0)
                                          obtain ⟨Ao66, co66, eo66⟩ := Kd.R_slice HO1253.out
                                          (first | subst eo66 | (injection eo66 with f1_ f2_ f3_; have f4_ := f1_.symm; have f5_ := f3_.symm; clear f1_ f2_ f3_; subst f4_; subst f5_))
                                          refine hK.out _ _ ⟨(blk_cell BK1231.out 0).trans rfl, (blk_cell BK1231.out 1).trans rfl⟩ (fun hHeld => ?_)
                                          clear hK K
                                          refine norm_ (a' := ?_) ?_ ?_
                                          rotate_left
                                          · show Act.put _ (some 135) _ = _
                                            simp only [Act.put, List.setIfInBounds_toArray, List.set_cons_zero, List.set_cons_succ, i64_w, i32_w]
                                            rfl
                                          obtain ⟨i0c_, hi0c_, _, hszc_, _⟩ := info_parts info2
                                          have hcut_ := cut_from (P := Try.prog) 62 2 .i64 Try.underlying62 hi0c_ 1 hszc_ Ao66 t1251.length co66 1 (by omega) (laws_FnFree.ind_pos A60.out)
                                          clear hi0c_ hszc_
                                          refine pure_ (i := 4) (N := some 136) (v := laws_FnFree.cutV (.slice Ao66 t1251.length co66)) (a' := ?_) #[true, true, true, true, true, false, false, false, false, false, false, false] rfl rfl (any_of HT_.out (by kernel_rfl)) (fun _ _ _ h => h) (Or.inl ⟨by rfl, ?_⟩) ?_ ?_
                                          · intro w'
                                            go_simp
                                            first | rfl | exact hcut_ w'
                                          clear hcut_
                                          rotate_left
                                          · simp only [Act.put, List.setIfInBounds_toArray, List.set_cons_zero, List.set_cons_succ, i64_w, i32_w]
                                            rfl
                                          refine two_ (i := 5) (j := 9) (Ni := some 137) (Nj := some 22) #[true, true, true, true, true, true, false, false, false, false, false, false] #[true, true, true, true, true, false, false, false, false, true, false, false] rfl rfl rfl rfl (two_of HT_.out (by kernel_rfl)) (by decide) (by decide) (fun K hK => ?_) (fun K hK => ?_)
                                          · skip
                                            refine goes_ Try.func38 (by kernel_rfl) rfl #[.agg #[.int .i64 t1229, .int .u32 t1230], laws_FnFree.cutV (.slice Ao66 t1251.length co66)] (by rfl) rfl rfl (by (try simp only [List.map_toArray, List.map_cons, List.map_nil]); first | done | rfl | (simp only [List.length_drop, List.length_take]; rfl)) ?_
                                            with_reducible refine (laws_FnFree.ind_calls t1229 t1230 _ _ t1251 t1254 t1255 t1256 _ ?side1 ?side2 A60.out).mono ?_
                                            (case side1 => repeat (first | exact (Kd.R_reads' HO1253.out).2.2 | (with_reducible refine Kd.C_alloc ?_ _) | (with_reducible refine Kd.C_drewN ?_ _) | (with_reducible refine Kd.C_drew ?_)))
                                            (case side2 => exact (Kd.R_reads' HO1253.out).2.1)
                                            rintro e w67 ⟨rfl, hb⟩
                                            refine ⟨_, rfl, ?_⟩
                                            have n0_ := Aside0.mk (Kd.R_below (by (with_reducible repeat (first | apply Kd.R_alloc | apply Kd.R_drewN | apply Kd.R_drew)); exact HO_5.out) hb)
                                            have n1_ := Aside0.mk (Kd.R_below (by (with_reducible repeat (first | apply Kd.R_alloc | apply Kd.R_drewN | apply Kd.R_drew)); exact HO1253.out) hb)
                                            have n2_ := Aside0.mk (blk_below (g := gb1231) (o := .cells #[.int .i64 t1229, .int .u32 t1230] 27 (0, 0)) (by (with_reducible repeat (first | refine blk_drewN ?_ _ | refine blk_drew ?_ | refine blk_alloc ?_ _)); exact BK1231.out) hb)
                                            have n3_ := Aside0.mk (blk_below (g := gb1249) (o := .cells #[.int .i64 t1246, .int .u32 t1247] 27 (0, 0)) (by (with_reducible repeat (first | refine blk_drewN ?_ _ | refine blk_drew ?_ | refine blk_alloc ?_ _)); exact BK1249.out) hb)
                                            have n4_ := Aside0.mk (below_step (by repeat (first | (with_reducible first | exact HB.out | apply below_alloc | apply pw_below_drewN | apply below_drew1 | refine below_set ?_ GE1231.out | refine below_set ?_ GE1249.out) | exact HB.out)) hb)
                                            clear HO_5
                                            clear HO1253
                                            clear BK1231
                                            clear BK1249
                                            clear HB
                                            have HO_5 := n0_
                                            have HO1253 := n1_
                                            have BK1231 := n2_
                                            have BK1249 := n3_
                                            have HB := n4_
                                            clear n0_ n1_ n2_ n3_ n4_
                                            (try clear hb)
                                            (try clear hb2)
                                            (try clear hk)
                                            (try clear hi)
                                            refine hK.out _ _ ⟨(blk_cell BK1231.out 0).trans rfl, (blk_cell BK1231.out 1).trans rfl⟩ (fun hHeld => ?_)
                                            clear hK K
                                            refine norm_ (a' := ?_) ?_ ?_
                                            rotate_left
                                            · show Act.put _ (some 137) _ = _
                                              simp only [Act.put, List.setIfInBounds_toArray, List.set_cons_zero, List.set_cons_succ, i64_w, i32_w]
                                              rfl
                                            refine pure_ (i := 6) (N := some 131) (v := ?_) (a' := ?_) #[true, true, true, true, true, true, true, false, false, false, false, false] rfl rfl (any_of HT_.out (by kernel_rfl)) (fun _ _ _ h => h) (Or.inl ⟨by rfl, ?_⟩) ?_ ?_
                                            rotate_left
                                            · intro w'
                                              go_simp
                                              with_reducible rfl
                                            rotate_left
                                            · simp only [Act.put, List.setIfInBounds_toArray, List.set_cons_zero, List.set_cons_succ, i64_w, i32_w]
                                              rfl
                                            refine pure_ (i := 7) (N := some 138) (v := ?_) (a' := ?_) #[true, true, true, true, true, true, true, true, false, false, false, false] rfl rfl (any_of HT_.out (by kernel_rfl)) (fun _ _ _ h => h) (Or.inl ⟨by rfl, ?_⟩) ?_ ?_
                                            rotate_left
                                            · intro w'
                                              go_simp
                                              with_reducible rfl
                                            rotate_left
                                            · simp only [Act.put, List.setIfInBounds_toArray, List.set_cons_zero, List.set_cons_succ, i64_w, i32_w]
                                              rfl
                                            refine pure_ (i := 8) (N := some 139) (v := ?_) (a' := ?_) #[true, true, true, true, true, true, true, true, true, false, false, false] rfl rfl (any_of HT_.out (by kernel_rfl)) (fun _ _ _ h => h) (Or.inl ⟨by rfl, ?_⟩) ?_ ?_
                                            rotate_left
                                            · intro w'
                                              go_simp
                                              with_reducible rfl
                                            rotate_left
                                            · simp only [Act.put, List.setIfInBounds_toArray, List.set_cons_zero, List.set_cons_succ, i64_w, i32_w]
                                              rfl
                                            refine one_ (i := 9) (N := some 22) #[true, true, true, true, true, true, true, true, true, true, false, false] rfl rfl (one_of HT_.out (by kernel_rfl)) (by decide) (fun K hK => ?_)
                                            refine box_step ?hg (N := 22) ?hd (cs := #[.int .i64 0, .int .u32 0]) (t := 27) ?hr ?_; (case hd => rfl); (case hg => rfl); (case hr => first | (go_simp; done) | (go_simp; rfl))
                                            intro gb1257 hg w68 hbox hb
                                            have n0_ := Aside0.mk (Kd.R_below (Kd.R_elderB (by (with_reducible repeat (first | apply Kd.R_alloc | apply Kd.R_drewN | apply Kd.R_drew)); exact HO_5.out) gb1257 (Nat.le_of_eq hg.symm)) hb)
                                            have n1_ := Aside0.mk (Kd.R_below (by (with_reducible repeat (first | apply Kd.R_alloc | apply Kd.R_drewN | apply Kd.R_drew)); exact HO1253.out) hb)
                                            have n2_ := Aside0.mk (blk_below (g := gb1231) (o := .cells #[.int .i64 t1229, .int .u32 t1230] 27 (0, 0)) (by (with_reducible repeat (first | refine blk_drewN ?_ _ | refine blk_drew ?_ | refine blk_alloc ?_ _)); exact BK1231.out) hb)
                                            have n3_ := Aside0.mk (blk_below (g := gb1249) (o := .cells #[.int .i64 t1246, .int .u32 t1247] 27 (0, 0)) (by (with_reducible repeat (first | refine blk_drewN ?_ _ | refine blk_drew ?_ | refine blk_alloc ?_ _)); exact BK1249.out) hb)
                                            have n4_ := Aside0.mk (below_step (by repeat (first | (with_reducible first | exact HB.out | apply below_alloc | apply pw_below_drewN | apply below_drew1 | refine below_set ?_ GE1231.out | refine below_set ?_ GE1249.out) | exact HB.out)) hb)
                                            have n5_ := Aside0.mk (hbox)
                                            have n6_ := Aside0.mk ((by rw [hg]; exact (below_size (by repeat (first | (with_reducible first | exact HB.out | apply below_alloc | apply pw_below_drewN | apply below_drew1 | refine below_set ?_ GE1231.out | refine below_set ?_ GE1249.out) | exact HB.out))) : w.heap.size ≤ gb1257))
                                            have n7_ := Aside0.mk ((by rw [hg]; exact (below_size (by repeat (first | (with_reducible first | exact HB.out | apply below_alloc | apply pw_below_drewN | apply below_drew1 | refine below_set ?_ GE1231.out | refine below_set ?_ GE1249.out) | exact HB.out))) : w.heap.size ≤ gb1257))
                                            have n8_ := Aside0.mk ((by rw [hg]; exact Nat.ne_of_lt (blk_lt (g := gb1231) (o := .cells #[.int .i64 t1229, .int .u32 t1230] 27 (0, 0)) (by (with_reducible repeat (first | refine blk_drewN ?_ _ | refine blk_drew ?_ | refine blk_alloc ?_ _)); exact BK1231.out)) : gb1231 ≠ gb1257))
                                            have n9_ := Aside0.mk ((by rw [hg]; exact Nat.ne_of_gt (blk_lt (g := gb1231) (o := .cells #[.int .i64 t1229, .int .u32 t1230] 27 (0, 0)) (by (with_reducible repeat (first | refine blk_drewN ?_ _ | refine blk_drew ?_ | refine blk_alloc ?_ _)); exact BK1231.out)) : gb1257 ≠ gb1231))
                                            have n10_ := Aside0.mk ((by rw [hg]; exact Nat.ne_of_lt (blk_lt (g := gb1249) (o := .cells #[.int .i64 t1246, .int .u32 t1247] 27 (0, 0)) (by (with_reducible repeat (first | refine blk_drewN ?_ _ | refine blk_drew ?_ | refine blk_alloc ?_ _)); exact BK1249.out)) : gb1249 ≠ gb1257))
                                            have n11_ := Aside0.mk ((by rw [hg]; exact Nat.ne_of_gt (blk_lt (g := gb1249) (o := .cells #[.int .i64 t1246, .int .u32 t1247] 27 (0, 0)) (by (with_reducible repeat (first | refine blk_drewN ?_ _ | refine blk_drew ?_ | refine blk_alloc ?_ _)); exact BK1249.out)) : gb1257 ≠ gb1249))
                                            clear HO_5
                                            clear HO1253
                                            clear BK1231
                                            clear BK1249
                                            clear HB
                                            have HO_5 := n0_
                                            have HO1253 := n1_
                                            have BK1231 := n2_
                                            have BK1249 := n3_
                                            have HB := n4_
                                            have BK1257 := n5_
                                            have GW1257 := n6_
                                            have GE1257 := n7_
                                            have NB1231_1257 := n8_
                                            have NB1257_1231 := n9_
                                            have NB1249_1257 := n10_
                                            have NB1257_1249 := n11_
                                            clear n0_ n1_ n2_ n3_ n4_ n5_ n6_ n7_ n8_ n9_ n10_ n11_
                                            clear hb hbox hg
                                            refine hK.out _ _ ⟨(blk_cell BK1231.out 0).trans rfl, (blk_cell BK1231.out 1).trans rfl⟩ (fun hHeld => ?_)
                                            clear hK K
                                            refine norm_ (a' := ?_) ?_ ?_
                                            rotate_left
                                            · show Act.put _ (some 22) _ = _
                                              simp only [Act.put, List.setIfInBounds_toArray, List.set_cons_zero, List.set_cons_succ, i64_w, i32_w]
                                              rfl
                                            exact norm_ (by simp only [putAll, Act.put, List.setIfInBounds_toArray, List.set_cons_zero, List.set_cons_succ]) (hCont (.slice Ao66 t1251.length co66, gb1257) _ ⟨hHeld, (by (with_reducible repeat (first | apply Kd.R_alloc | apply Kd.R_drewN | apply Kd.R_drew)); exact HO1253.out), (by (with_reducible repeat (first | apply Kd.R_alloc | apply Kd.R_drewN | apply Kd.R_drew)); exact Kd.R_mono HO_5.out (fun _ hk => ⟨hk.1.1, ⟨hk.1.2, hk.2⟩⟩)), (by (with_reducible repeat (first | refine blk_drewN ?_ _ | refine blk_drew ?_ | refine blk_alloc ?_ _)); exact BK1231.out), (by (with_reducible repeat (first | refine blk_drewN ?_ _ | refine blk_drew ?_ | refine blk_alloc ?_ _)); exact BK1249.out), (by (with_reducible repeat (first | refine blk_drewN ?_ _ | refine blk_drew ?_ | refine blk_alloc ?_ _)); exact BK1257.out), GW1257.out, GE1257.out, NB1231_1257.out, NB1257_1231.out, NB1249_1257.out, NB1257_1249.out, (by repeat (first | (with_reducible first | exact HB.out | apply below_alloc | apply pw_below_drewN | apply below_drew1 | refine below_set ?_ GE1231.out | refine below_set ?_ GE1249.out | refine below_set ?_ GE1257.out) | exact HB.out))⟩)
                                          · skip
                                            refine box_step ?hg (N := 22) ?hd (cs := #[.int .i64 0, .int .u32 0]) (t := 27) ?hr ?_; (case hd => rfl); (case hg => rfl); (case hr => first | (go_simp; done) | (go_simp; rfl))
                                            intro gb1257 hg w66 hbox hb
                                            have n0_ := Aside0.mk (Kd.R_below (Kd.R_elderB (by (with_reducible repeat (first | apply Kd.R_alloc | apply Kd.R_drewN | apply Kd.R_drew)); exact HO_5.out) gb1257 (Nat.le_of_eq hg.symm)) hb)
                                            have n1_ := Aside0.mk (Kd.R_below (by (with_reducible repeat (first | apply Kd.R_alloc | apply Kd.R_drewN | apply Kd.R_drew)); exact HO1253.out) hb)
                                            have n2_ := Aside0.mk (blk_below (g := gb1231) (o := .cells #[.int .i64 t1229, .int .u32 t1230] 27 (0, 0)) (by (with_reducible repeat (first | refine blk_drewN ?_ _ | refine blk_drew ?_ | refine blk_alloc ?_ _)); exact BK1231.out) hb)
                                            have n3_ := Aside0.mk (blk_below (g := gb1249) (o := .cells #[.int .i64 t1246, .int .u32 t1247] 27 (0, 0)) (by (with_reducible repeat (first | refine blk_drewN ?_ _ | refine blk_drew ?_ | refine blk_alloc ?_ _)); exact BK1249.out) hb)
                                            have n4_ := Aside0.mk (below_step (by repeat (first | (with_reducible first | exact HB.out | apply below_alloc | apply pw_below_drewN | apply below_drew1 | refine below_set ?_ GE1231.out | refine below_set ?_ GE1249.out) | exact HB.out)) hb)
                                            have n5_ := Aside0.mk (hbox)
                                            have n6_ := Aside0.mk ((by rw [hg]; exact (below_size (by repeat (first | (with_reducible first | exact HB.out | apply below_alloc | apply pw_below_drewN | apply below_drew1 | refine below_set ?_ GE1231.out | refine below_set ?_ GE1249.out) | exact HB.out))) : w.heap.size ≤ gb1257))
                                            have n7_ := Aside0.mk ((by rw [hg]; exact (below_size (by repeat (first | (with_reducible first | exact HB.out | apply below_alloc | apply pw_below_drewN | apply below_drew1 | refine below_set ?_ GE1231.out | refine below_set ?_ GE1249.out) | exact HB.out))) : w.heap.size ≤ gb1257))
                                            have n8_ := Aside0.mk ((by rw [hg]; exact Nat.ne_of_lt (blk_lt (g := gb1231) (o := .cells #[.int .i64 t1229, .int .u32 t1230] 27 (0, 0)) (by (with_reducible repeat (first | refine blk_drewN ?_ _ | refine blk_drew ?_ | refine blk_alloc ?_ _)); exact BK1231.out)) : gb1231 ≠ gb1257))
                                            have n9_ := Aside0.mk ((by rw [hg]; exact Nat.ne_of_gt (blk_lt (g := gb1231) (o := .cells #[.int .i64 t1229, .int .u32 t1230] 27 (0, 0)) (by (with_reducible repeat (first | refine blk_drewN ?_ _ | refine blk_drew ?_ | refine blk_alloc ?_ _)); exact BK1231.out)) : gb1257 ≠ gb1231))
                                            have n10_ := Aside0.mk ((by rw [hg]; exact Nat.ne_of_lt (blk_lt (g := gb1249) (o := .cells #[.int .i64 t1246, .int .u32 t1247] 27 (0, 0)) (by (with_reducible repeat (first | refine blk_drewN ?_ _ | refine blk_drew ?_ | refine blk_alloc ?_ _)); exact BK1249.out)) : gb1249 ≠ gb1257))
                                            have n11_ := Aside0.mk ((by rw [hg]; exact Nat.ne_of_gt (blk_lt (g := gb1249) (o := .cells #[.int .i64 t1246, .int .u32 t1247] 27 (0, 0)) (by (with_reducible repeat (first | refine blk_drewN ?_ _ | refine blk_drew ?_ | refine blk_alloc ?_ _)); exact BK1249.out)) : gb1257 ≠ gb1249))
                                            clear HO_5
                                            clear HO1253
                                            clear BK1231
                                            clear BK1249
                                            clear HB
                                            have HO_5 := n0_
                                            have HO1253 := n1_
                                            have BK1231 := n2_
                                            have BK1249 := n3_
                                            have HB := n4_
                                            have BK1257 := n5_
                                            have GW1257 := n6_
                                            have GE1257 := n7_
                                            have NB1231_1257 := n8_
                                            have NB1257_1231 := n9_
                                            have NB1249_1257 := n10_
                                            have NB1257_1249 := n11_
                                            clear n0_ n1_ n2_ n3_ n4_ n5_ n6_ n7_ n8_ n9_ n10_ n11_
                                            clear hb hbox hg
                                            obtain ⟨Ao67, co67, eo67⟩ := Kd.R_slice HO1253.out
                                            (first | subst eo67 | (injection eo67 with f1_ f2_ f3_; have f4_ := f1_.symm; have f5_ := f3_.symm; clear f1_ f2_ f3_; subst f4_; subst f5_))
                                            refine hK.out _ _ ⟨(blk_cell BK1231.out 0).trans rfl, (blk_cell BK1231.out 1).trans rfl⟩ (fun hHeld => ?_)
                                            clear hK K
                                            refine norm_ (a' := ?_) ?_ ?_
                                            rotate_left
                                            · show Act.put _ (some 22) _ = _
                                              simp only [Act.put, List.setIfInBounds_toArray, List.set_cons_zero, List.set_cons_succ, i64_w, i32_w]
                                              rfl
                                            refine one_ (i := 5) (N := some 137) #[true, true, true, true, true, true, false, false, false, true, false, false] rfl rfl (one_of HT_.out (by kernel_rfl)) (by decide) (fun K hK => ?_)
                                            refine goes_ Try.func38 (by kernel_rfl) rfl #[.agg #[.int .i64 t1229, .int .u32 t1230], laws_FnFree.cutV (.slice Ao67 t1251.length co67)] (by rfl) rfl rfl (by (try simp only [List.map_toArray, List.map_cons, List.map_nil]); first | done | rfl | (simp only [List.length_drop, List.length_take]; rfl)) ?_
                                            with_reducible refine (laws_FnFree.ind_calls t1229 t1230 _ _ t1251 t1254 t1255 t1256 _ ?side1 ?side2 A60.out).mono ?_
                                            (case side1 => repeat (first | exact (Kd.R_reads' HO1253.out).2.2 | (with_reducible refine Kd.C_alloc ?_ _) | (with_reducible refine Kd.C_drewN ?_ _) | (with_reducible refine Kd.C_drew ?_)))
                                            (case side2 => exact (Kd.R_reads' HO1253.out).2.1)
                                            rintro e w68 ⟨rfl, hb⟩
                                            refine ⟨_, rfl, ?_⟩
                                            have n0_ := Aside0.mk (Kd.R_below (by (with_reducible repeat (first | apply Kd.R_alloc | apply Kd.R_drewN | apply Kd.R_drew)); exact HO_5.out) hb)
                                            have n1_ := Aside0.mk (Kd.R_below (by (with_reducible repeat (first | apply Kd.R_alloc | apply Kd.R_drewN | apply Kd.R_drew)); exact HO1253.out) hb)
                                            have n2_ := Aside0.mk (blk_below (g := gb1231) (o := .cells #[.int .i64 t1229, .int .u32 t1230] 27 (0, 0)) (by (with_reducible repeat (first | refine blk_drewN ?_ _ | refine blk_drew ?_ | refine blk_alloc ?_ _)); exact BK1231.out) hb)
                                            have n3_ := Aside0.mk (blk_below (g := gb1249) (o := .cells #[.int .i64 t1246, .int .u32 t1247] 27 (0, 0)) (by (with_reducible repeat (first | refine blk_drewN ?_ _ | refine blk_drew ?_ | refine blk_alloc ?_ _)); exact BK1249.out) hb)
                                            have n4_ := Aside0.mk (blk_below (g := gb1257) (o := .cells #[.int .i64 0, .int .u32 0] 27 (0, 0)) (by (with_reducible repeat (first | refine blk_drewN ?_ _ | refine blk_drew ?_ | refine blk_alloc ?_ _)); exact BK1257.out) hb)
                                            have n5_ := Aside0.mk (below_step (by repeat (first | (with_reducible first | exact HB.out | apply below_alloc | apply pw_below_drewN | apply below_drew1 | refine below_set ?_ GE1231.out | refine below_set ?_ GE1249.out | refine below_set ?_ GE1257.out) | exact HB.out)) hb)
                                            clear HO_5
                                            clear HO1253
                                            clear BK1231
                                            clear BK1249
                                            clear BK1257
                                            clear HB
                                            have HO_5 := n0_
                                            have HO1253 := n1_
                                            have BK1231 := n2_
                                            have BK1249 := n3_
                                            have BK1257 := n4_
                                            have HB := n5_
                                            clear n0_ n1_ n2_ n3_ n4_ n5_
                                            (try clear hb)
                                            (try clear hb2)
                                            (try clear hk)
                                            (try clear hi)
                                            refine hK.out _ _ ⟨(blk_cell BK1231.out 0).trans rfl, (blk_cell BK1231.out 1).trans rfl⟩ (fun hHeld => ?_)
                                            clear hK K
                                            refine norm_ (a' := ?_) ?_ ?_
                                            rotate_left
                                            · show Act.put _ (some 137) _ = _
                                              simp only [Act.put, List.setIfInBounds_toArray, List.set_cons_zero, List.set_cons_succ, i64_w, i32_w]
                                              rfl
                                            refine pure_ (i := 6) (N := some 131) (v := ?_) (a' := ?_) #[true, true, true, true, true, true, true, false, false, true, false, false] rfl rfl (any_of HT_.out (by kernel_rfl)) (fun _ _ _ h => h) (Or.inl ⟨by rfl, ?_⟩) ?_ ?_
                                            rotate_left
                                            · intro w'
                                              go_simp
                                              with_reducible rfl
                                            rotate_left
                                            · simp only [Act.put, List.setIfInBounds_toArray, List.set_cons_zero, List.set_cons_succ, i64_w, i32_w]
                                              rfl
                                            refine pure_ (i := 7) (N := some 138) (v := ?_) (a' := ?_) #[true, true, true, true, true, true, true, true, false, true, false, false] rfl rfl (any_of HT_.out (by kernel_rfl)) (fun _ _ _ h => h) (Or.inl ⟨by rfl, ?_⟩) ?_ ?_
                                            rotate_left
                                            · intro w'
                                              go_simp
                                              with_reducible rfl
                                            rotate_left
                                            · simp only [Act.put, List.setIfInBounds_toArray, List.set_cons_zero, List.set_cons_succ, i64_w, i32_w]
                                              rfl
                                            refine pure_ (i := 8) (N := some 139) (v := ?_) (a' := ?_) #[true, true, true, true, true, true, true, true, true, true, false, false] rfl rfl (any_of HT_.out (by kernel_rfl)) (fun _ _ _ h => h) (Or.inl ⟨by rfl, ?_⟩) ?_ ?_
                                            rotate_left
                                            · intro w'
                                              go_simp
                                              with_reducible rfl
                                            rotate_left
                                            · simp only [Act.put, List.setIfInBounds_toArray, List.set_cons_zero, List.set_cons_succ, i64_w, i32_w]
                                              rfl
                                            exact norm_ (by simp only [putAll, Act.put, List.setIfInBounds_toArray, List.set_cons_zero, List.set_cons_succ]) (hCont (.slice Ao67 t1251.length co67, gb1257) _ ⟨hHeld, (by (with_reducible repeat (first | apply Kd.R_alloc | apply Kd.R_drewN | apply Kd.R_drew)); exact HO1253.out), (by (with_reducible repeat (first | apply Kd.R_alloc | apply Kd.R_drewN | apply Kd.R_drew)); exact Kd.R_mono HO_5.out (fun _ hk => ⟨hk.1.1, ⟨hk.1.2, hk.2⟩⟩)), (by (with_reducible repeat (first | refine blk_drewN ?_ _ | refine blk_drew ?_ | refine blk_alloc ?_ _)); exact BK1231.out), (by (with_reducible repeat (first | refine blk_drewN ?_ _ | refine blk_drew ?_ | refine blk_alloc ?_ _)); exact BK1249.out), (by (with_reducible repeat (first | refine blk_drewN ?_ _ | refine blk_drew ?_ | refine blk_alloc ?_ _)); exact BK1257.out), GW1257.out, GE1257.out, NB1231_1257.out, NB1257_1231.out, NB1249_1257.out, NB1257_1249.out, (by repeat (first | (with_reducible first | exact HB.out | apply below_alloc | apply pw_below_drewN | apply below_drew1 | refine below_set ?_ GE1231.out | refine below_set ?_ GE1249.out | refine below_set ?_ GE1257.out) | exact HB.out))⟩)
                                        · skip
                                          refine box_step ?hg (N := 22) ?hd (cs := #[.int .i64 0, .int .u32 0]) (t := 27) ?hr ?_; (case hd => rfl); (case hg => rfl); (case hr => first | (go_simp; done) | (go_simp; rfl))
                                          intro gb1257 hg w65 hbox hb
                                          have n0_ := Aside0.mk (Kd.R_below (Kd.R_elderB (by (with_reducible repeat (first | apply Kd.R_alloc | apply Kd.R_drewN | apply Kd.R_drew)); exact HO_5.out) gb1257 (Nat.le_of_eq hg.symm)) hb)
                                          have n1_ := Aside0.mk (blk_below (g := gb1231) (o := .cells #[.int .i64 t1229, .int .u32 t1230] 27 (0, 0)) (by (with_reducible repeat (first | refine blk_drewN ?_ _ | refine blk_drew ?_ | refine blk_alloc ?_ _)); exact BK1231.out) hb)
                                          have n2_ := Aside0.mk (blk_below (g := gb1249) (o := .cells #[.int .i64 t1246, .int .u32 t1247] 27 (0, 0)) (by (with_reducible repeat (first | refine blk_drewN ?_ _ | refine blk_drew ?_ | refine blk_alloc ?_ _)); exact BK1249.out) hb)
                                          have n3_ := Aside0.mk (below_step (by repeat (first | (with_reducible first | exact HB.out | apply below_alloc | apply pw_below_drewN | apply below_drew1 | refine below_set ?_ GE1231.out | refine below_set ?_ GE1249.out) | exact HB.out)) hb)
                                          have n4_ := Aside0.mk (hbox)
                                          have n5_ := Aside0.mk ((by rw [hg]; exact (below_size (by repeat (first | (with_reducible first | exact HB.out | apply below_alloc | apply pw_below_drewN | apply below_drew1 | refine below_set ?_ GE1231.out | refine below_set ?_ GE1249.out) | exact HB.out))) : w.heap.size ≤ gb1257))
                                          have n6_ := Aside0.mk ((by rw [hg]; exact (below_size (by repeat (first | (with_reducible first | exact HB.out | apply below_alloc | apply pw_below_drewN | apply below_drew1 | refine below_set ?_ GE1231.out | refine below_set ?_ GE1249.out) | exact HB.out))) : w.heap.size ≤ gb1257))
                                          have n7_ := Aside0.mk ((by rw [hg]; exact Nat.ne_of_lt (blk_lt (g := gb1231) (o := .cells #[.int .i64 t1229, .int .u32 t1230] 27 (0, 0)) (by (with_reducible repeat (first | refine blk_drewN ?_ _ | refine blk_drew ?_ | refine blk_alloc ?_ _)); exact BK1231.out)) : gb1231 ≠ gb1257))
                                          have n8_ := Aside0.mk ((by rw [hg]; exact Nat.ne_of_gt (blk_lt (g := gb1231) (o := .cells #[.int .i64 t1229, .int .u32 t1230] 27 (0, 0)) (by (with_reducible repeat (first | refine blk_drewN ?_ _ | refine blk_drew ?_ | refine blk_alloc ?_ _)); exact BK1231.out)) : gb1257 ≠ gb1231))
                                          have n9_ := Aside0.mk ((by rw [hg]; exact Nat.ne_of_lt (blk_lt (g := gb1249) (o := .cells #[.int .i64 t1246, .int .u32 t1247] 27 (0, 0)) (by (with_reducible repeat (first | refine blk_drewN ?_ _ | refine blk_drew ?_ | refine blk_alloc ?_ _)); exact BK1249.out)) : gb1249 ≠ gb1257))
                                          have n10_ := Aside0.mk ((by rw [hg]; exact Nat.ne_of_gt (blk_lt (g := gb1249) (o := .cells #[.int .i64 t1246, .int .u32 t1247] 27 (0, 0)) (by (with_reducible repeat (first | refine blk_drewN ?_ _ | refine blk_drew ?_ | refine blk_alloc ?_ _)); exact BK1249.out)) : gb1257 ≠ gb1249))
                                          clear HO_5
                                          clear BK1231
                                          clear BK1249
                                          clear HB
                                          have HO_5 := n0_
                                          have BK1231 := n1_
                                          have BK1249 := n2_
                                          have HB := n3_
                                          have BK1257 := n4_
                                          have GW1257 := n5_
                                          have GE1257 := n6_
                                          have NB1231_1257 := n7_
                                          have NB1257_1231 := n8_
                                          have NB1249_1257 := n9_
                                          have NB1257_1249 := n10_
                                          clear n0_ n1_ n2_ n3_ n4_ n5_ n6_ n7_ n8_ n9_ n10_
                                          clear hb hbox hg
                                          refine hK.out _ _ ⟨(blk_cell BK1231.out 0).trans rfl, (blk_cell BK1231.out 1).trans rfl⟩ (fun hHeld => ?_)
                                          clear hK K
                                          refine norm_ (a' := ?_) ?_ ?_
                                          rotate_left
                                          · show Act.put _ (some 22) _ = _
                                            simp only [Act.put, List.setIfInBounds_toArray, List.set_cons_zero, List.set_cons_succ, i64_w, i32_w]
                                            rfl
                                          refine one_ (i := 3) (N := some 135) #[true, true, true, true, false, false, false, false, false, true, false, false] rfl rfl (one_of HT_.out (by kernel_rfl)) (by decide) (fun K hK => ?_)
                                          refine goes_ Try.func37 (by kernel_rfl) rfl #[.slice A1 l1.length c1, .int .i64 t1228] (by rfl) rfl rfl (by (try simp only [List.map_toArray, List.map_cons, List.map_nil]); first | done | rfl | (simp only [List.length_drop, List.length_take]; rfl)) ?_
                                          with_reducible refine (spec_A2Order.calls kj55 _ _ l1 t1228 t1251 _ ?side1 ?side2 A59.out).mono ?_
                                          (case side1 => repeat (first | exact (Kd.C_below HR1.out HB.out) | (with_reducible refine Kd.C_alloc ?_ _) | (with_reducible refine Kd.C_drewN ?_ _) | (with_reducible refine Kd.C_drew ?_)))
                                          (case side2 => exact HC1.out)
                                          rintro e w66 ⟨v1252, rfl, ho0, hb⟩
                                          refine ⟨_, rfl, ?_⟩
                                          have n0_ := Aside0.mk (Kd.R_below (by (with_reducible repeat (first | apply Kd.R_alloc | apply Kd.R_drewN | apply Kd.R_drew)); exact HO_5.out) hb)
                                          have n1_ := Aside0.mk (Kd.R_lower ho0 (below_size (by repeat (first | (with_reducible first | exact HB.out | apply below_alloc | apply pw_below_drewN | apply below_drew1 | refine below_set ?_ GE1231.out | refine below_set ?_ GE1249.out | refine below_set ?_ GE1257.out) | exact HB.out))))
                                          have n2_ := Aside0.mk (blk_below (g := gb1231) (o := .cells #[.int .i64 t1229, .int .u32 t1230] 27 (0, 0)) (by (with_reducible repeat (first | refine blk_drewN ?_ _ | refine blk_drew ?_ | refine blk_alloc ?_ _)); exact BK1231.out) hb)
                                          have n3_ := Aside0.mk (blk_below (g := gb1249) (o := .cells #[.int .i64 t1246, .int .u32 t1247] 27 (0, 0)) (by (with_reducible repeat (first | refine blk_drewN ?_ _ | refine blk_drew ?_ | refine blk_alloc ?_ _)); exact BK1249.out) hb)
                                          have n4_ := Aside0.mk (blk_below (g := gb1257) (o := .cells #[.int .i64 0, .int .u32 0] 27 (0, 0)) (by (with_reducible repeat (first | refine blk_drewN ?_ _ | refine blk_drew ?_ | refine blk_alloc ?_ _)); exact BK1257.out) hb)
                                          have n5_ := Aside0.mk (below_step (by repeat (first | (with_reducible first | exact HB.out | apply below_alloc | apply pw_below_drewN | apply below_drew1 | refine below_set ?_ GE1231.out | refine below_set ?_ GE1249.out | refine below_set ?_ GE1257.out) | exact HB.out)) hb)
                                          clear HO_5
                                          clear BK1231
                                          clear BK1249
                                          clear BK1257
                                          clear HB
                                          have HO_5 := n0_
                                          have HO1253 := n1_
                                          have BK1231 := n2_
                                          have BK1249 := n3_
                                          have BK1257 := n4_
                                          have HB := n5_
                                          clear n0_ n1_ n2_ n3_ n4_ n5_
                                          (try clear hb)
                                          (try clear hb2)
                                          (try clear hk)
                                          (try clear hi)
                                          (try clear ho0)
                                          obtain ⟨Ao67, co67, eo67⟩ := Kd.R_slice HO1253.out
                                          (first | subst eo67 | (injection eo67 with f1_ f2_ f3_; have f4_ := f1_.symm; have f5_ := f3_.symm; clear f1_ f2_ f3_; subst f4_; subst f5_))
                                          refine hK.out _ _ ⟨(blk_cell BK1231.out 0).trans rfl, (blk_cell BK1231.out 1).trans rfl⟩ (fun hHeld => ?_)
                                          clear hK K
                                          refine norm_ (a' := ?_) ?_ ?_
                                          rotate_left
                                          · show Act.put _ (some 135) _ = _
                                            simp only [Act.put, List.setIfInBounds_toArray, List.set_cons_zero, List.set_cons_succ, i64_w, i32_w]
                                            rfl
                                          obtain ⟨i0c_, hi0c_, _, hszc_, _⟩ := info_parts info2
                                          have hcut_ := cut_from (P := Try.prog) 62 2 .i64 Try.underlying62 hi0c_ 1 hszc_ Ao67 t1251.length co67 1 (by omega) (laws_FnFree.ind_pos A60.out)
                                          clear hi0c_ hszc_
                                          refine pure_ (i := 4) (N := some 136) (v := laws_FnFree.cutV (.slice Ao67 t1251.length co67)) (a' := ?_) #[true, true, true, true, true, false, false, false, false, true, false, false] rfl rfl (any_of HT_.out (by kernel_rfl)) (fun _ _ _ h => h) (Or.inl ⟨by rfl, ?_⟩) ?_ ?_
                                          · intro w'
                                            go_simp
                                            first | rfl | exact hcut_ w'
                                          clear hcut_
                                          rotate_left
                                          · simp only [Act.put, List.setIfInBounds_toArray, List.set_cons_zero, List.set_cons_succ, i64_w, i32_w]
                                            rfl
                                          refine one_ (i := 5) (N := some 137) #[true, true, true, true, true, true, false, false, false, true, false, false] rfl rfl (one_of HT_.out (by kernel_rfl)) (by decide) (fun K hK => ?_)
                                          refine goes_ Try.func38 (by kernel_rfl) rfl #[.agg #[.int .i64 t1229, .int .u32 t1230], laws_FnFree.cutV (.slice Ao67 t1251.length co67)] (by rfl) rfl rfl (by (try simp only [List.map_toArray, List.map_cons, List.map_nil]); first | done | rfl | (simp only [List.length_drop, List.length_take]; rfl)) ?_
                                          with_reducible refine (laws_FnFree.ind_calls t1229 t1230 _ _ t1251 t1254 t1255 t1256 _ ?side1 ?side2 A60.out).mono ?_
                                          (case side1 => repeat (first | exact (Kd.R_reads' HO1253.out).2.2 | (with_reducible refine Kd.C_alloc ?_ _) | (with_reducible refine Kd.C_drewN ?_ _) | (with_reducible refine Kd.C_drew ?_)))
                                          (case side2 => exact (Kd.R_reads' HO1253.out).2.1)
                                          rintro e w68 ⟨rfl, hb⟩
                                          refine ⟨_, rfl, ?_⟩
                                          have n0_ := Aside0.mk (Kd.R_below (by (with_reducible repeat (first | apply Kd.R_alloc | apply Kd.R_drewN | apply Kd.R_drew)); exact HO_5.out) hb)
                                          have n1_ := Aside0.mk (Kd.R_below (by (with_reducible repeat (first | apply Kd.R_alloc | apply Kd.R_drewN | apply Kd.R_drew)); exact HO1253.out) hb)
                                          have n2_ := Aside0.mk (blk_below (g := gb1231) (o := .cells #[.int .i64 t1229, .int .u32 t1230] 27 (0, 0)) (by (with_reducible repeat (first | refine blk_drewN ?_ _ | refine blk_drew ?_ | refine blk_alloc ?_ _)); exact BK1231.out) hb)
                                          have n3_ := Aside0.mk (blk_below (g := gb1249) (o := .cells #[.int .i64 t1246, .int .u32 t1247] 27 (0, 0)) (by (with_reducible repeat (first | refine blk_drewN ?_ _ | refine blk_drew ?_ | refine blk_alloc ?_ _)); exact BK1249.out) hb)
                                          have n4_ := Aside0.mk (blk_below (g := gb1257) (o := .cells #[.int .i64 0, .int .u32 0] 27 (0, 0)) (by (with_reducible repeat (first | refine blk_drewN ?_ _ | refine blk_drew ?_ | refine blk_alloc ?_ _)); exact BK1257.out) hb)
                                          have n5_ := Aside0.mk (below_step (by repeat (first | (with_reducible first | exact HB.out | apply below_alloc | apply pw_below_drewN | apply below_drew1 | refine below_set ?_ GE1231.out | refine below_set ?_ GE1249.out | refine below_set ?_ GE1257.out) | exact HB.out)) hb)
                                          clear HO_5
                                          clear HO1253
                                          clear BK1231
                                          clear BK1249
                                          clear BK1257
                                          clear HB
                                          have HO_5 := n0_
                                          have HO1253 := n1_
                                          have BK1231 := n2_
                                          have BK1249 := n3_
                                          have BK1257 := n4_
                                          have HB := n5_
                                          clear n0_ n1_ n2_ n3_ n4_ n5_
                                          (try clear hb)
                                          (try clear hb2)
                                          (try clear hk)
                                          (try clear hi)
                                          refine hK.out _ _ ⟨(blk_cell BK1231.out 0).trans rfl, (blk_cell BK1231.out 1).trans rfl⟩ (fun hHeld => ?_)
                                          clear hK K
                                          refine norm_ (a' := ?_) ?_ ?_
                                          rotate_left
                                          · show Act.put _ (some 137) _ = _
                                            simp only [Act.put, List.setIfInBounds_toArray, List.set_cons_zero, List.set_cons_succ, i64_w, i32_w]
                                            rfl
                                          refine pure_ (i := 6) (N := some 131) (v := ?_) (a' := ?_) #[true, true, true, true, true, true, true, false, false, true, false, false] rfl rfl (any_of HT_.out (by kernel_rfl)) (fun _ _ _ h => h) (Or.inl ⟨by rfl, ?_⟩) ?_ ?_
                                          rotate_left
                                          · intro w'
                                            go_simp
                                            with_reducible rfl
                                          rotate_left
                                          · simp only [Act.put, List.setIfInBounds_toArray, List.set_cons_zero, List.set_cons_succ, i64_w, i32_w]
                                            rfl
                                          refine pure_ (i := 7) (N := some 138) (v := ?_) (a' := ?_) #[true, true, true, true, true, true, true, true, false, true, false, false] rfl rfl (any_of HT_.out (by kernel_rfl)) (fun _ _ _ h => h) (Or.inl ⟨by rfl, ?_⟩) ?_ ?_
                                          rotate_left
                                          · intro w'
                                            go_simp
                                            with_reducible rfl
                                          rotate_left
                                          · simp only [Act.put, List.setIfInBounds_toArray, List.set_cons_zero, List.set_cons_succ, i64_w, i32_w]
                                            rfl
                                          refine pure_ (i := 8) (N := some 139) (v := ?_) (a' := ?_) #[true, true, true, true, true, true, true, true, true, true, false, false] rfl rfl (any_of HT_.out (by kernel_rfl)) (fun _ _ _ h => h) (Or.inl ⟨by rfl, ?_⟩) ?_ ?_
                                          rotate_left
                                          · intro w'
                                            go_simp
                                            with_reducible rfl
                                          rotate_left
                                          · simp only [Act.put, List.setIfInBounds_toArray, List.set_cons_zero, List.set_cons_succ, i64_w, i32_w]
                                            rfl
                                          exact norm_ (by simp only [putAll, Act.put, List.setIfInBounds_toArray, List.set_cons_zero, List.set_cons_succ]) (hCont (.slice Ao67 t1251.length co67, gb1257) _ ⟨hHeld, (by (with_reducible repeat (first | apply Kd.R_alloc | apply Kd.R_drewN | apply Kd.R_drew)); exact HO1253.out), (by (with_reducible repeat (first | apply Kd.R_alloc | apply Kd.R_drewN | apply Kd.R_drew)); exact Kd.R_mono HO_5.out (fun _ hk => ⟨hk.1.1, ⟨hk.1.2, hk.2⟩⟩)), (by (with_reducible repeat (first | refine blk_drewN ?_ _ | refine blk_drew ?_ | refine blk_alloc ?_ _)); exact BK1231.out), (by (with_reducible repeat (first | refine blk_drewN ?_ _ | refine blk_drew ?_ | refine blk_alloc ?_ _)); exact BK1249.out), (by (with_reducible repeat (first | refine blk_drewN ?_ _ | refine blk_drew ?_ | refine blk_alloc ?_ _)); exact BK1257.out), GW1257.out, GE1257.out, NB1231_1257.out, NB1257_1231.out, NB1249_1257.out, NB1257_1249.out, (by repeat (first | (with_reducible first | exact HB.out | apply below_alloc | apply pw_below_drewN | apply below_drew1 | refine below_set ?_ GE1231.out | refine below_set ?_ GE1249.out | refine below_set ?_ GE1257.out) | exact HB.out))⟩)
                                      rintro ⟨v1252, gb1257⟩ w69 ⟨hS_, h0_, h1_, h2_, h3_, h4_, h5_, h6_, h7_, h8_, h9_, h10_, h11_⟩
                                      have n0_ : Aside0 (Kd.R (Kd.int .i64) 2 w69 w.heap.size (fun _ => True) v1252 t1251) := ⟨h0_⟩
                                      have n1_ : Aside0 (Kd.R k27 27 w69 w.heap.size (fun k_ => k_ ≠ gb1231 ∧ k_ ≠ gb1249 ∧ k_ ≠ gb1257) (.slice Ao13 t1225.length co13) t1225) := ⟨h1_⟩
                                      have n2_ : Aside0 (w69.heap[gb1231]? = some (.cells #[.int .i64 t1229, .int .u32 t1230] 27 (0, 0))) := ⟨h2_⟩
                                      have n3_ : Aside0 (w69.heap[gb1249]? = some (.cells #[.int .i64 t1246, .int .u32 t1247] 27 (0, 0))) := ⟨h3_⟩
                                      have n4_ : Aside0 (w69.heap[gb1257]? = some (.cells #[.int .i64 0, .int .u32 0] 27 (0, 0))) := ⟨h4_⟩
                                      have n5_ : Aside0 (w.heap.size ≤ gb1257) := ⟨h5_⟩
                                      have n6_ : Aside0 (w.heap.size ≤ gb1257) := ⟨h6_⟩
                                      have n7_ : Aside0 (gb1231 ≠ gb1257) := ⟨h7_⟩
                                      have n8_ : Aside0 (gb1257 ≠ gb1231) := ⟨h8_⟩
                                      have n9_ : Aside0 (gb1249 ≠ gb1257) := ⟨h9_⟩
                                      have n10_ : Aside0 (gb1257 ≠ gb1249) := ⟨h10_⟩
                                      have n11_ : Aside0 (Below w.heap.size w w69) := ⟨h11_⟩
                                      clear HO_5
                                      clear BK1231
                                      clear BK1249
                                      clear HB
                                      clear h0_ h1_ h2_ h3_ h4_ h5_ h6_ h7_ h8_ h9_ h10_ h11_
                                      have HO1253 := n0_
                                      have HO_5 := n1_
                                      have BK1231 := n2_
                                      have BK1249 := n3_
                                      have BK1257 := n4_
                                      have GW1257 := n5_
                                      have GE1257 := n6_
                                      have NB1231_1257 := n7_
                                      have NB1257_1231 := n8_
                                      have NB1249_1257 := n9_
                                      have NB1257_1249 := n10_
                                      have HB := n11_
                                      clear n0_ n1_ n2_ n3_ n4_ n5_ n6_ n7_ n8_ n9_ n10_ n11_
                                      have hHeld : w69.cell? ⟨gb1231, 0, none⟩ = some (.int .i64 t1229) ∧ w69.cell? ⟨gb1231, 1, none⟩ = some (.int .u32 t1230) := hS_
                                      refine norm_ (a' := ?_) ?_ ?_
                                      rotate_left
                                      · simp only [putAll, Act.put, List.setIfInBounds_toArray, List.set_cons_zero, List.set_cons_succ]
                                        rfl
                                      refine one_ (i := 10) (N := none) #[true, true, true, true, true, true, true, true, true, true, true, false] rfl rfl (one_of HT_.out (by kernel_rfl)) (by decide) (fun K hK => ?_)
                                      have hs70 : w69.cell? ⟨gb1257, 0, none⟩ = some (.int .i64 0) := (blk_cell BK1257.out 0).trans rfl
                                      have hfs70 := blk_frozen BK1257.out 0
                                      have hns70_0 := NB1231_1257.out
                                      have hns70_1 := NB1249_1257.out
                                      have hms70_0 := NB1257_1231.out
                                      have hms70_1 := NB1257_1249.out
                                      have hs71 : w69.cell? ⟨gb1257, 1, none⟩ = some (.int .u32 0) := (blk_cell BK1257.out 1).trans rfl
                                      have hfs71 := blk_frozen BK1257.out 1
                                      have hns71_0 := NB1231_1257.out
                                      have hns71_1 := NB1249_1257.out
                                      have hms71_0 := NB1257_1231.out
                                      have hms71_1 := NB1257_1249.out
                                      refine skip_ (w1 := ?_) (by rfl) rfl ?_ ?_
                                      rotate_left
                                      · go_simp
                                        rfl
                                      refine hK.out _ _ ⟨((cell_far (p := ⟨gb1257, _, none⟩) NB1231_1257.out _).trans (((cell_far (p := ⟨gb1257, _, none⟩) NB1231_1257.out _).trans (hHeld.1)))), ((cell_far (p := ⟨gb1257, _, none⟩) NB1231_1257.out _).trans (((cell_far (p := ⟨gb1257, _, none⟩) NB1231_1257.out _).trans (hHeld.2))))⟩ (fun hHeld => ?_)
                                      clear hK K
                                      refine pure_ (i := 11) (N := some 23) (v := ?_) (a' := ?_) #[true, true, true, true, true, true, true, true, true, true, true, true] rfl rfl (any_of HT_.out (by kernel_rfl)) (fun _ _ _ h => h) (Or.inl ⟨by rfl, ?_⟩) ?_ ?_
                                      rotate_left
                                      · intro w'
                                        go_simp
                                        with_reducible rfl
                                      rotate_left
                                      · simp only [Act.put, List.setIfInBounds_toArray, List.set_cons_zero, List.set_cons_succ, i64_w, i32_w]
                                        rfl
                                      refine done_ (done_of HT_.out (by kernel_rfl)) ?_
                                      have hnb72 := NB1257_1231.out
                                      have hnc72 := NB1231_1257.out
                                      have hnb73 := NB1257_1249.out
                                      have hnc73 := NB1249_1257.out
                                      have hcz74_0 : w69.cell? ⟨gb1257, 0, none⟩ = some (.int .i64 0) := (blk_cell BK1257.out 0).trans rfl
                                      have hcz74_1 : w69.cell? ⟨gb1257, 1, none⟩ = some (.int .u32 0) := (blk_cell BK1257.out 1).trans rfl
                                      have hfz74_0 := blk_frozen BK1257.out 0
                                      have hfz74_1 := blk_frozen BK1257.out 1
                                      try go_wp2_with (first | ((with_reducible refine gate_callee (f := 54) rfl ?_); refine goesL_ (some 143) rfl rfl Try.func54 (by kernel_rfl) rfl #[.agg #[.int .i64 t1254, .int .u32 t1255], .slice Ao13 t1225.length co13] rfl (by (try simp only [List.map_toArray, List.map_cons, List.map_nil]); first | done | rfl | (simp only [List.length_drop, List.length_take]; rfl)) ?_; (with_reducible refine (impl_IsFree.calls kj55 t1254 t1255 _ _ t1225 t1258 t1259 _ ?side1 ?side2 A61.out).mono ?_); (case side1 => refine (Kd.R_reads' (e := 27) (base := w.heap.size) (ok := fun k_ => (k_ ≠ gb1231 ∧ (k_ ≠ gb1249 ∧ k_ ≠ gb1257))) (n := t1225.length) (c := co13) ?_).2.2; exact (by (with_reducible repeat (first | apply Kd.R_alloc | apply Kd.R_drewN | apply Kd.R_drew)); exact (Kd.R_mono (Kd.R_far (p := ⟨gb1257, 1, none⟩) (Kd.R_far (p := ⟨gb1257, 0, none⟩) (Kd.R_mono HO_5.out (fun k_ hk => (⟨hk, hk.2.2⟩ : _ ∧ k_ ≠ gb1257))) (fun _ hk => hk.2) (.int .i64 t1254)) (fun _ hk => hk.2) (.int .u32 t1255)) (fun _ h_ => h_.1)))); (case side2 => exact (Kd.R_reads' HO_5.out).2.1); rintro e w75 ⟨rfl, hb⟩; refine ⟨_, rfl, ?_⟩; have n0_ := Aside0.mk (Kd.R_below (by (with_reducible repeat (first | apply Kd.R_alloc | apply Kd.R_drewN | apply Kd.R_drew)); exact (Kd.R_mono (Kd.R_far (p := ⟨gb1257, 1, none⟩) (Kd.R_far (p := ⟨gb1257, 0, none⟩) (Kd.R_mono HO_5.out (fun k_ hk => (⟨hk, hk.2.2⟩ : _ ∧ k_ ≠ gb1257))) (fun _ hk => hk.2) (.int .i64 t1254)) (fun _ hk => hk.2) (.int .u32 t1255)) (fun _ h_ => h_.1))) hb); have n1_ := Aside0.mk (Kd.R_below (by (with_reducible repeat (first | apply Kd.R_alloc | apply Kd.R_drewN | apply Kd.R_drew)); exact (Kd.R_mono (Kd.R_far (p := ⟨gb1257, 1, none⟩) (Kd.R_far (p := ⟨gb1257, 0, none⟩) (Kd.R_types HO1253.out BK1257.out (by decide)) (fun _ hk => hk.2) (.int .i64 t1254)) (fun _ hk => hk.2) (.int .u32 t1255)) (fun _ h_ => h_.1))) hb); have n2_ := Aside0.mk (blk_below (g := gb1231) (o := .cells #[.int .i64 t1229, .int .u32 t1230] 27 (0, 0)) (by (with_reducible repeat (first | refine blk_drewN ?_ _ | refine blk_drew ?_ | refine blk_alloc ?_ _)); refine blk_far ?_ NB1231_1257.out _; (with_reducible repeat (first | refine blk_drewN ?_ _ | refine blk_drew ?_ | refine blk_alloc ?_ _)); refine blk_far ?_ NB1231_1257.out _; (with_reducible repeat (first | refine blk_drewN ?_ _ | refine blk_drew ?_ | refine blk_alloc ?_ _)); exact BK1231.out) hb); have n3_ := Aside0.mk (blk_below (g := gb1249) (o := .cells #[.int .i64 t1246, .int .u32 t1247] 27 (0, 0)) (by (with_reducible repeat (first | refine blk_drewN ?_ _ | refine blk_drew ?_ | refine blk_alloc ?_ _)); refine blk_far ?_ NB1249_1257.out _; (with_reducible repeat (first | refine blk_drewN ?_ _ | refine blk_drew ?_ | refine blk_alloc ?_ _)); refine blk_far ?_ NB1249_1257.out _; (with_reducible repeat (first | refine blk_drewN ?_ _ | refine blk_drew ?_ | refine blk_alloc ?_ _)); exact BK1249.out) hb); have n4_ := Aside0.mk (blk_below (g := gb1257) (o := .cells #[.int .i64 t1254, .int .u32 t1255] 27 (0, 0)) (by (with_reducible repeat (first | refine blk_drewN ?_ _ | refine blk_drew ?_ | refine blk_alloc ?_ _)); refine blk_put (cs := #[.int .i64 t1254, .int .u32 0]) ?_ 1 _ rfl; (with_reducible repeat (first | refine blk_drewN ?_ _ | refine blk_drew ?_ | refine blk_alloc ?_ _)); refine blk_put (cs := #[.int .i64 0, .int .u32 0]) ?_ 0 _ rfl; (with_reducible repeat (first | refine blk_drewN ?_ _ | refine blk_drew ?_ | refine blk_alloc ?_ _)); exact BK1257.out) hb); have n5_ := Aside0.mk (below_step (by repeat (first | (with_reducible first | exact HB.out | apply below_alloc | apply pw_below_drewN | apply below_drew1 | refine below_set ?_ GE1231.out | refine below_set ?_ GE1249.out | refine below_set ?_ GE1257.out) | exact HB.out)) hb); clear HO_5; clear HO1253; clear BK1231; clear BK1249; clear BK1257; clear HB; have HO_5 := n0_; have HO1253 := n1_; have BK1231 := n2_; have BK1249 := n3_; have BK1257 := n4_; have HB := n5_; clear n0_ n1_ n2_ n3_ n4_ n5_; (try clear hb); (try clear hb2); (try clear hk); (try clear hi)))
                                      go_ret
                                      exact ⟨by first | rfl | (simp [errW_none, errW_some] <;> rfl) | (simp [*, errW_none, errW_some] <;> rfl), by repeat (first | (with_reducible first | exact HB.out | apply below_alloc | apply pw_below_drewN | apply below_drew1 | refine below_set ?_ GE1231.out | refine below_set ?_ GE1249.out | refine below_set ?_ GE1257.out) | exact HB.out)⟩
                                    · rw [if_neg c63] at H
                                      have c63b0 : (t1259 == 0) = false := beq_eq_false_iff_ne.mpr c63
                                      have c63b1 : (t1259 != 0) = true := bne_iff_ne.mpr c63
                                      exact absurd H (by simp)
                                  · rw [if_neg c62] at H
                                    have c62b0 : (t1256 == 0) = false := beq_eq_false_iff_ne.mpr c62
                                    have c62b1 : (t1256 != 0) = true := bne_iff_ne.mpr c62
                                    exact absurd H (by simp)

end Go.Proofs.Ytcepbgffnneagaa.Q
end
