/- Contracts of Go functions and plain lemmas over what they compute; printed by the kit's print program or written by hand, joined. -/
import Derived.Test.YtcepbgffnneagaaBFnLeast3
import Derived.Test.YtcepbgffnneagaaBFnLeast4
import Derived.Test.YtcepbgffnneagaaBFnLeast6
import Derived.Test.YtcepbgffnneagaaBFnLeast7
import Derived.Test.YtcepbgffnneagaaBFnLeast8
import Derived.Test.YtcepbgffnneagaaBFnLeast10
import Derived.Test.YtcepbgffnneagaaBFnLeast12
import Derived.Test.YtcepbgffnneagaaBFnLeast13
section
namespace Go.Proofs.Ytcepbgffnneagaa.Q
open Go.RowKit Go.Proofs.YtcepbgffnneagaaW.PrintWords Go.Proofs.YtcepbgffnneagaaW.PrintLast Go.Proofs.YtcepbgffnneagaaW.PrintMore
attribute [local go_sem] max2_int min2_int max_two min_two max_three min_three max_four min_four   -- for this text's walks alone
set_option linter.unusedVariables false
set_option linter.unusedSimpArgs false

attribute [local go_sem high] eqA27
mutual
def laws_FnLeast.j0 : Nat → Int → Bool → Int → Int → Int → Int → Int → Int → Option (Bool)
 | 0, _, _, _, _, _, _, _, _ => none
 | k + 1, x5, x149, x925000, x925001, x932000, x932001, x939000, x939001 => if x149 = true then (some false) else ((impl_IndexOfGraph.f k x932000 x932001).bind fun bt959 => ((impl_CountSelf.f x925000 x925001).bind fun bt961 => ((impl_CountSelf.f x932000 x932001).bind fun bt963 => (if bt959.2 = 0 then (if bt961.2 = 0 then (if bt963.2 = 0 then (if bt961.1 = bt963.1 then (laws_FnLeast.j1 k x5 bt959.1 (decide (bt961.1 < 1)) x939000 x939001) else (laws_FnLeast.j1 k x5 bt959.1 true x939000 x939001)) else (laws_FnLeast.j1 k x5 bt959.1 true x939000 x939001)) else (laws_FnLeast.j1 k x5 bt959.1 true x939000 x939001)) else (laws_FnLeast.j1 k x5 bt959.1 true x939000 x939001)))))
def laws_FnLeast.j1 : Nat → Int → Int → Bool → Int → Int → Option (Bool)
 | 0, _, _, _, _, _ => none
 | k + 1, x5, x24, x183, x939000, x939001 => if x183 = true then (some false) else (if x5 = 5 then (some true) else ((impl_AllGraphs.f k x5).bind fun bt965 => (laws_FnLeast.l0 k x24 bt965.1 bt965.2 0 0 x939000 x939001)))
def laws_FnLeast.l0 : Nat → Int → List (S27) → Int → Int → Int → Int → Int → Option (Bool)
 | 0, _, _, _, _, _, _, _ => none
 | k + 1, x24, x30, x31, x32, x33, x939000, x939001 => if x33 < (x30.length : Int) then (if 0 ≤ x33 then (if (((rd_T27 x30 x33).f0) == x939000 && (((rd_T27 x30 x33).f1) == x939001)) = true then (if x33 = x24 then (if x33 > 0 then (if 0 ≤ (wrap64 (x33 - 1)) then (if (wrap64 (x33 - 1)) < (x30.length : Int) then (if ((rd_T27 x30 (wrap64 (x33 - 1))).f1) ≥ ((rd_T27 x30 x33).f1) then (some false) else (laws_FnLeast.l0 k x24 x30 x31 (wrap64 (x32 + 1)) (wrap64 (x33 + 1)) x939000 x939001)) else (none)) else (none)) else (laws_FnLeast.l0 k x24 x30 x31 (wrap64 (x32 + 1)) (wrap64 (x33 + 1)) x939000 x939001)) else (some false)) else (if x33 > 0 then (if 0 ≤ (wrap64 (x33 - 1)) then (if (wrap64 (x33 - 1)) < (x30.length : Int) then (if ((rd_T27 x30 (wrap64 (x33 - 1))).f1) ≥ ((rd_T27 x30 x33).f1) then (some false) else (laws_FnLeast.l0 k x24 x30 x31 x32 (wrap64 (x33 + 1)) x939000 x939001)) else (none)) else (none)) else (laws_FnLeast.l0 k x24 x30 x31 x32 (wrap64 (x33 + 1)) x939000 x939001))) else (none)) else (if x31 = 0 then (some (x32 == 1)) else (some false))
end
def laws_FnLeast.f (k : Nat) (l0 : List Int) (l1 : List Int) : Option (Bool) := (laws_a2Long.f l0 l1).bind fun t920 => (if t920 = true then (some true) else ((laws_a2At.f l1 0 6).bind fun t921 => ((spec_A2Graph.f l0 t921).bind fun bt922 => ((spec_A2Order.f k l1 t921).bind fun t925 => ((impl_RenameGraph.f bt922.1 bt922.2 t925).bind fun bt928 => ((spec_A2Graph.f l1 t921).bind fun bt932 => ((impl_LeastGraph.f bt922.1 bt922.2).bind fun bt935 => ((impl_LeastGraph.f bt928.1 bt928.2.1).bind fun bt939 => ((impl_LeastGraph.f bt932.1 bt932.2).bind fun bt943 => ((impl_LeastGraph.f bt935.1 bt935.2.1).bind fun bt947 => ((impl_AreAlike.f bt922.1 bt922.2 bt928.1 bt928.2.1).bind fun bt951 => ((impl_AreAlike.f bt922.1 bt922.2 bt932.1 bt932.2).bind fun bt953 => ((spec_LeastGraph.f k bt922.1 bt922.2).bind fun bt955 => (if bt928.2.2 = 0 then (if bt935.2.2 = bt955.2.2 then (if (!(bt935.1 == bt955.1) || (!(bt935.2.1 == bt955.2.1))) = true then (laws_FnLeast.j0 k t921 true bt922.1 bt922.2 bt928.1 bt928.2.1 bt935.1 bt935.2.1) else (if bt939.2.2 = 0 then (if (!(bt939.1 == bt935.1) || (!(bt939.2.1 == bt935.2.1))) = true then (laws_FnLeast.j0 k t921 true bt922.1 bt922.2 bt928.1 bt928.2.1 bt935.1 bt935.2.1) else (if bt943.2.2 = 0 then (if bt947.2.2 = 0 then (if (!(bt947.1 == bt935.1) || (!(bt947.2.1 == bt935.2.1))) = true then (laws_FnLeast.j0 k t921 true bt922.1 bt922.2 bt928.1 bt928.2.1 bt935.1 bt935.2.1) else (if bt951.2 = 0 then (if bt951.1 = true then (if bt953.2 = 0 then (if (bt953.1 != (bt935.1 == bt943.1 && (bt935.2.1 == bt943.2.1))) = true then (laws_FnLeast.j0 k t921 true bt922.1 bt922.2 bt928.1 bt928.2.1 bt935.1 bt935.2.1) else (laws_FnLeast.j0 k t921 (decide (bt935.2.1 > bt922.2)) bt922.1 bt922.2 bt928.1 bt928.2.1 bt935.1 bt935.2.1)) else (laws_FnLeast.j0 k t921 true bt922.1 bt922.2 bt928.1 bt928.2.1 bt935.1 bt935.2.1)) else (laws_FnLeast.j0 k t921 true bt922.1 bt922.2 bt928.1 bt928.2.1 bt935.1 bt935.2.1)) else (laws_FnLeast.j0 k t921 true bt922.1 bt922.2 bt928.1 bt928.2.1 bt935.1 bt935.2.1))) else (laws_FnLeast.j0 k t921 true bt922.1 bt922.2 bt928.1 bt928.2.1 bt935.1 bt935.2.1)) else (laws_FnLeast.j0 k t921 true bt922.1 bt922.2 bt928.1 bt928.2.1 bt935.1 bt935.2.1))) else (laws_FnLeast.j0 k t921 true bt922.1 bt922.2 bt928.1 bt928.2.1 bt935.1 bt935.2.1))) else (laws_FnLeast.j0 k t921 true bt922.1 bt922.2 bt928.1 bt928.2.1 bt935.1 bt935.2.1)) else (laws_FnLeast.j0 k t921 true bt922.1 bt922.2 bt928.1 bt928.2.1 bt935.1 bt935.2.1)))))))))))))))
theorem laws_FnLeast.mono_l : ∀ k, (∀ y0 y1 y2 y3 y4 y5 y6 y7, LeO (laws_FnLeast.j0 k y0 y1 y2 y3 y4 y5 y6 y7) (laws_FnLeast.j0 (k + 1) y0 y1 y2 y3 y4 y5 y6 y7)) ∧ (∀ y0 y1 y2 y3 y4, LeO (laws_FnLeast.j1 k y0 y1 y2 y3 y4) (laws_FnLeast.j1 (k + 1) y0 y1 y2 y3 y4)) ∧ (∀ y0 y1 y2 y3 y4 y5 y6, LeO (laws_FnLeast.l0 k y0 y1 y2 y3 y4 y5 y6) (laws_FnLeast.l0 (k + 1) y0 y1 y2 y3 y4 y5 y6))
 | 0 => ⟨fun _ _ _ _ _ _ _ _ r h => by simp [laws_FnLeast.j0] at h, fun _ _ _ _ _ r h => by simp [laws_FnLeast.j1] at h, fun _ _ _ _ _ _ _ r h => by simp [laws_FnLeast.l0] at h⟩
 | k + 1 => by
  obtain ⟨ih0, ih1, ih2⟩ := laws_FnLeast.mono_l k
  refine ⟨?_, ?_, ?_⟩
  ·intro y0 y1 y2 y3 y4 y5 y6 y7
   unfold laws_FnLeast.j0
   repeat' first
   | (with_reducible exact ih0 _ _ _ _ _ _ _ _)
   | (with_reducible exact ih1 _ _ _ _ _)
   | (with_reducible exact ih2 _ _ _ _ _ _ _)
   | (with_reducible exact impl_AllGraphs.mono _ _)
   | (with_reducible exact impl_IndexOfGraph.mono _ _ _)
   | (with_reducible exact spec_A2Order.mono _ _ _)
   | (with_reducible exact spec_LeastGraph.mono _ _ _)
   | (with_reducible exact LeO.refl _)
   | (with_reducible exact LeO.none _)
   | (with_reducible refine LeO.ite ?_ ?_)
   | (with_reducible refine LeO.bind ?_ (fun _ => ?_))
   | exact ih0 _ _ _ _ _ _ _ _
   | exact ih1 _ _ _ _ _
   | exact ih2 _ _ _ _ _ _ _
   | exact impl_AllGraphs.mono _ _
   | exact impl_IndexOfGraph.mono _ _ _
   | exact spec_A2Order.mono _ _ _
   | exact spec_LeastGraph.mono _ _ _
   | exact LeO.none _
   | refine LeO.ite ?_ ?_
   | refine LeO.bind ?_ (fun _ => ?_)
  ·intro y0 y1 y2 y3 y4
   unfold laws_FnLeast.j1
   repeat' first
   | (with_reducible exact ih0 _ _ _ _ _ _ _ _)
   | (with_reducible exact ih1 _ _ _ _ _)
   | (with_reducible exact ih2 _ _ _ _ _ _ _)
   | (with_reducible exact impl_AllGraphs.mono _ _)
   | (with_reducible exact impl_IndexOfGraph.mono _ _ _)
   | (with_reducible exact spec_A2Order.mono _ _ _)
   | (with_reducible exact spec_LeastGraph.mono _ _ _)
   | (with_reducible exact LeO.refl _)
   | (with_reducible exact LeO.none _)
   | (with_reducible refine LeO.ite ?_ ?_)
   | (with_reducible refine LeO.bind ?_ (fun _ => ?_))
   | exact ih0 _ _ _ _ _ _ _ _
   | exact ih1 _ _ _ _ _
   | exact ih2 _ _ _ _ _ _ _
   | exact impl_AllGraphs.mono _ _
   | exact impl_IndexOfGraph.mono _ _ _
   | exact spec_A2Order.mono _ _ _
   | exact spec_LeastGraph.mono _ _ _
   | exact LeO.none _
   | refine LeO.ite ?_ ?_
   | refine LeO.bind ?_ (fun _ => ?_)
  ·intro y0 y1 y2 y3 y4 y5 y6
   unfold laws_FnLeast.l0
   repeat' first
   | (with_reducible exact ih0 _ _ _ _ _ _ _ _)
   | (with_reducible exact ih1 _ _ _ _ _)
   | (with_reducible exact ih2 _ _ _ _ _ _ _)
   | (with_reducible exact impl_AllGraphs.mono _ _)
   | (with_reducible exact impl_IndexOfGraph.mono _ _ _)
   | (with_reducible exact spec_A2Order.mono _ _ _)
   | (with_reducible exact spec_LeastGraph.mono _ _ _)
   | (with_reducible exact LeO.refl _)
   | (with_reducible exact LeO.none _)
   | (with_reducible refine LeO.ite ?_ ?_)
   | (with_reducible refine LeO.bind ?_ (fun _ => ?_))
   | exact ih0 _ _ _ _ _ _ _ _
   | exact ih1 _ _ _ _ _
   | exact ih2 _ _ _ _ _ _ _
   | exact impl_AllGraphs.mono _ _
   | exact impl_IndexOfGraph.mono _ _ _
   | exact spec_A2Order.mono _ _ _
   | exact spec_LeastGraph.mono _ _ _
   | exact LeO.none _
   | refine LeO.ite ?_ ?_
   | refine LeO.bind ?_ (fun _ => ?_)
def laws_FnLeast.T5 : Bool × List (List Nat × List Nat) := (true, [([], []), ([], []), ([], []), ([1, 2], [1, 2]), ([0, 3, 3], [0, 3]), ([4], [4]), ([5], [5]), ([5], [5]), ([], []), ([8, 6, 4, 0, 1, 2, 3, 4, 5, 6, 8], [6, 8]), ([7, 9, 0, 1, 2, 3, 4, 5, 6, 7, 8, 9], [7])])
def laws_FnLeast.B5 : List Nat := [0, 0, 0, 6, 15, 31, 63, 63, 0, 383, 1023]
theorem laws_FnLeast.tab5 : rtab .any (opsOf Try.f10 5) = laws_FnLeast.T5 := by kernel_rfl
theorem laws_FnLeast.bits5 : waitsOk laws_FnLeast.T5.2 laws_FnLeast.B5 = true := by kernel_rfl
def laws_FnLeast.T32 : Bool × List (List Nat × List Nat) := (true, [([], []), ([0], [0]), ([1], [1]), ([2], [2]), ([2], [2]), ([4, 2], [2, 4]), ([3, 5, 2], [2, 3, 5]), ([6, 2], [2, 6]), ([7, 2], [2, 7]), ([2], [2]), ([2], [2]), ([9, 10, 2], [2, 9, 10]), ([11, 2], [2, 11]), ([12, 2], [2, 12]), ([8, 13, 2], [2, 8, 13]), ([2, 14], [2, 14])])
def laws_FnLeast.B32 : List Nat := [0, 1, 3, 7, 7, 23, 63, 127, 255, 7, 7, 1543, 3591, 7687, 16383, 32767]
theorem laws_FnLeast.tab32 : rtab .any (opsOf Try.f10 32) = laws_FnLeast.T32 := by kernel_rfl
theorem laws_FnLeast.bits32 : waitsOk laws_FnLeast.T32.2 laws_FnLeast.B32 = true := by kernel_rfl
theorem laws_FnLeast.j0_no (k : Nat) (x5 : Int) (x925000 : Int) (x925001 : Int) (x932000 : Int) (x932001 : Int) (x939000 : Int) (x939001 : Int) : laws_FnLeast.j0 k x5 true x925000 x925001 x932000 x932001 x939000 x939001 ≠ some true := by cases k <;> simp [laws_FnLeast.j0]
theorem laws_FnLeast.j1_no (k : Nat) (x5 : Int) (x24 : Int) (x939000 : Int) (x939001 : Int) : laws_FnLeast.j1 k x5 x24 true x939000 x939001 ≠ some true := by cases k <;> simp [laws_FnLeast.j1]
set_option maxHeartbeats 8000000 in
set_option maxRecDepth 100000 in
theorem laws_FnLeast.calls (k : Nat) (A0 : Option Addr) (c0 : Nat) (l0 : List Int) (A1 : Option Addr) (c1 : Nat) (l1 : List Int) (r : Bool) (w : World) (hr0 : Kd.C (Kd.int .u8) w A0 l0.length l0) (hc0 : l0.length ≤ c0) (hr1 : Kd.C (Kd.int .u8) w A1 l1.length l1) (hc1 : l1.length ≤ c1) (h : laws_FnLeast.f k l0 l1 = some true) :
  Calls Try.prog 10 #[.slice A0 l0.length c0, .slice A1 l1.length c1] w fun e w' => e = .returned (.bool true) ∧ Below w.heap.size w w' := by
 have hu27 := Try.underlying27
 have HR0 := Aside0.mk hr0
 have HC0 := Aside0.mk hc0
 clear hr0 hc0
 have HR1 := Aside0.mk hr1
 have HC1 := Aside0.mk hc1
 clear hr1 hc1
 have HB := Aside0.mk (Below.refl w.heap.size w)
 have H : ((laws_a2Long.f l0 l1).bind fun t920 => (if t920 = true then (some true) else ((laws_a2At.f l1 0 6).bind fun t921 => ((spec_A2Graph.f l0 t921).bind fun bt922 => ((spec_A2Order.f k l1 t921).bind fun t925 => ((impl_RenameGraph.f bt922.1 bt922.2 t925).bind fun bt928 => ((spec_A2Graph.f l1 t921).bind fun bt932 => ((impl_LeastGraph.f bt922.1 bt922.2).bind fun bt935 => ((impl_LeastGraph.f bt928.1 bt928.2.1).bind fun bt939 => ((impl_LeastGraph.f bt932.1 bt932.2).bind fun bt943 => ((impl_LeastGraph.f bt935.1 bt935.2.1).bind fun bt947 => ((impl_AreAlike.f bt922.1 bt922.2 bt928.1 bt928.2.1).bind fun bt951 => ((impl_AreAlike.f bt922.1 bt922.2 bt932.1 bt932.2).bind fun bt953 => ((spec_LeastGraph.f k bt922.1 bt922.2).bind fun bt955 => (if bt928.2.2 = 0 then (if bt935.2.2 = bt955.2.2 then (if (!(bt935.1 == bt955.1) || (!(bt935.2.1 == bt955.2.1))) = true then (laws_FnLeast.j0 k t921 true bt922.1 bt922.2 bt928.1 bt928.2.1 bt935.1 bt935.2.1) else (if bt939.2.2 = 0 then (if (!(bt939.1 == bt935.1) || (!(bt939.2.1 == bt935.2.1))) = true then (laws_FnLeast.j0 k t921 true bt922.1 bt922.2 bt928.1 bt928.2.1 bt935.1 bt935.2.1) else (if bt943.2.2 = 0 then (if bt947.2.2 = 0 then (if (!(bt947.1 == bt935.1) || (!(bt947.2.1 == bt935.2.1))) = true then (laws_FnLeast.j0 k t921 true bt922.1 bt922.2 bt928.1 bt928.2.1 bt935.1 bt935.2.1) else (if bt951.2 = 0 then (if bt951.1 = true then (if bt953.2 = 0 then (if (bt953.1 != (bt935.1 == bt943.1 && (bt935.2.1 == bt943.2.1))) = true then (laws_FnLeast.j0 k t921 true bt922.1 bt922.2 bt928.1 bt928.2.1 bt935.1 bt935.2.1) else (laws_FnLeast.j0 k t921 (decide (bt935.2.1 > bt922.2)) bt922.1 bt922.2 bt928.1 bt928.2.1 bt935.1 bt935.2.1)) else (laws_FnLeast.j0 k t921 true bt922.1 bt922.2 bt928.1 bt928.2.1 bt935.1 bt935.2.1)) else (laws_FnLeast.j0 k t921 true bt922.1 bt922.2 bt928.1 bt928.2.1 bt935.1 bt935.2.1)) else (laws_FnLeast.j0 k t921 true bt922.1 bt922.2 bt928.1 bt928.2.1 bt935.1 bt935.2.1))) else (laws_FnLeast.j0 k t921 true bt922.1 bt922.2 bt928.1 bt928.2.1 bt935.1 bt935.2.1)) else (laws_FnLeast.j0 k t921 true bt922.1 bt922.2 bt928.1 bt928.2.1 bt935.1 bt935.2.1))) else (laws_FnLeast.j0 k t921 true bt922.1 bt922.2 bt928.1 bt928.2.1 bt935.1 bt935.2.1))) else (laws_FnLeast.j0 k t921 true bt922.1 bt922.2 bt928.1 bt928.2.1 bt935.1 bt935.2.1)) else (laws_FnLeast.j0 k t921 true bt922.1 bt922.2 bt928.1 bt928.2.1 bt935.1 bt935.2.1)))))))))))))))) = some true := h
 clear h
 replace H := Option.bind_eq_some_iff.mp H
 obtain ⟨t920, A30, H⟩ := H
 replace H : (if t920 = true then (some true) else ((laws_a2At.f l1 0 6).bind fun t921 => ((spec_A2Graph.f l0 t921).bind fun bt922 => ((spec_A2Order.f k l1 t921).bind fun t925 => ((impl_RenameGraph.f bt922.1 bt922.2 t925).bind fun bt928 => ((spec_A2Graph.f l1 t921).bind fun bt932 => ((impl_LeastGraph.f bt922.1 bt922.2).bind fun bt935 => ((impl_LeastGraph.f bt928.1 bt928.2.1).bind fun bt939 => ((impl_LeastGraph.f bt932.1 bt932.2).bind fun bt943 => ((impl_LeastGraph.f bt935.1 bt935.2.1).bind fun bt947 => ((impl_AreAlike.f bt922.1 bt922.2 bt928.1 bt928.2.1).bind fun bt951 => ((impl_AreAlike.f bt922.1 bt922.2 bt932.1 bt932.2).bind fun bt953 => ((spec_LeastGraph.f k bt922.1 bt922.2).bind fun bt955 => (if bt928.2.2 = 0 then (if bt935.2.2 = bt955.2.2 then (if (!(bt935.1 == bt955.1) || (!(bt935.2.1 == bt955.2.1))) = true then (laws_FnLeast.j0 k t921 true bt922.1 bt922.2 bt928.1 bt928.2.1 bt935.1 bt935.2.1) else (if bt939.2.2 = 0 then (if (!(bt939.1 == bt935.1) || (!(bt939.2.1 == bt935.2.1))) = true then (laws_FnLeast.j0 k t921 true bt922.1 bt922.2 bt928.1 bt928.2.1 bt935.1 bt935.2.1) else (if bt943.2.2 = 0 then (if bt947.2.2 = 0 then (if (!(bt947.1 == bt935.1) || (!(bt947.2.1 == bt935.2.1))) = true then (laws_FnLeast.j0 k t921 true bt922.1 bt922.2 bt928.1 bt928.2.1 bt935.1 bt935.2.1) else (if bt951.2 = 0 then (if bt951.1 = true then (if bt953.2 = 0 then (if (bt953.1 != (bt935.1 == bt943.1 && (bt935.2.1 == bt943.2.1))) = true then (laws_FnLeast.j0 k t921 true bt922.1 bt922.2 bt928.1 bt928.2.1 bt935.1 bt935.2.1) else (laws_FnLeast.j0 k t921 (decide (bt935.2.1 > bt922.2)) bt922.1 bt922.2 bt928.1 bt928.2.1 bt935.1 bt935.2.1)) else (laws_FnLeast.j0 k t921 true bt922.1 bt922.2 bt928.1 bt928.2.1 bt935.1 bt935.2.1)) else (laws_FnLeast.j0 k t921 true bt922.1 bt922.2 bt928.1 bt928.2.1 bt935.1 bt935.2.1)) else (laws_FnLeast.j0 k t921 true bt922.1 bt922.2 bt928.1 bt928.2.1 bt935.1 bt935.2.1))) else (laws_FnLeast.j0 k t921 true bt922.1 bt922.2 bt928.1 bt928.2.1 bt935.1 bt935.2.1)) else (laws_FnLeast.j0 k t921 true bt922.1 bt922.2 bt928.1 bt928.2.1 bt935.1 bt935.2.1))) else (laws_FnLeast.j0 k t921 true bt922.1 bt922.2 bt928.1 bt928.2.1 bt935.1 bt935.2.1))) else (laws_FnLeast.j0 k t921 true bt922.1 bt922.2 bt928.1 bt928.2.1 bt935.1 bt935.2.1)) else (laws_FnLeast.j0 k t921 true bt922.1 bt922.2 bt928.1 bt928.2.1 bt935.1 bt935.2.1))))))))))))))) = some true := H
 have A3 := Aside0.mk A30
 clear A30
 by_cases c4 : t920 = true
 ·subst c4
  have H1 : (some true) = some true := rfl
  clear H
  have H := H1
  clear H1
  clear H
  go_enter Try.func10, Try.ntmps10
  go_wp2_with (first | ((with_reducible refine gate_callee (f := 31) rfl ?_); refine goesL_ (some 36) rfl rfl Try.func31 (by kernel_rfl) rfl #[.slice A0 l0.length c0, .slice A1 l1.length c1] rfl (by (try simp only [List.map_toArray, List.map_cons, List.map_nil]); first | done | rfl | (simp only [List.length_drop, List.length_take]; rfl)) ?_; (with_reducible refine (laws_a2Long.calls _ _ l0 _ _ l1 true _ ?side1 ?side2 ?side3 ?side4 A3.out).mono ?_); (case side1 => repeat (first | exact HR0.out | (with_reducible refine Kd.C_alloc ?_ _) | (with_reducible refine Kd.C_drewN ?_ _) | (with_reducible refine Kd.C_drew ?_))); (case side2 => exact HC0.out); (case side3 => repeat (first | exact HR1.out | (with_reducible refine Kd.C_alloc ?_ _) | (with_reducible refine Kd.C_drewN ?_ _) | (with_reducible refine Kd.C_drew ?_))); (case side4 => exact HC1.out); rintro e w' ⟨rfl, ⟨nd, rfl⟩⟩; refine ⟨_, rfl, ?_⟩))
  go_ret
  exact ⟨by first | rfl | (simp [errW_none, errW_some] <;> rfl) | (simp [*, errW_none, errW_some] <;> rfl), by repeat (first | (with_reducible first | exact HB.out | apply below_alloc | apply pw_below_drewN | apply below_drew1) | exact HB.out)⟩
 ·replace c4 := Bool.eq_false_iff.mpr c4
  subst c4
  have H1 : ((laws_a2At.f l1 0 6).bind fun t921 => ((spec_A2Graph.f l0 t921).bind fun bt922 => ((spec_A2Order.f k l1 t921).bind fun t925 => ((impl_RenameGraph.f bt922.1 bt922.2 t925).bind fun bt928 => ((spec_A2Graph.f l1 t921).bind fun bt932 => ((impl_LeastGraph.f bt922.1 bt922.2).bind fun bt935 => ((impl_LeastGraph.f bt928.1 bt928.2.1).bind fun bt939 => ((impl_LeastGraph.f bt932.1 bt932.2).bind fun bt943 => ((impl_LeastGraph.f bt935.1 bt935.2.1).bind fun bt947 => ((impl_AreAlike.f bt922.1 bt922.2 bt928.1 bt928.2.1).bind fun bt951 => ((impl_AreAlike.f bt922.1 bt922.2 bt932.1 bt932.2).bind fun bt953 => ((spec_LeastGraph.f k bt922.1 bt922.2).bind fun bt955 => (if bt928.2.2 = 0 then (if bt935.2.2 = bt955.2.2 then (if (!(bt935.1 == bt955.1) || (!(bt935.2.1 == bt955.2.1))) = true then (laws_FnLeast.j0 k t921 true bt922.1 bt922.2 bt928.1 bt928.2.1 bt935.1 bt935.2.1) else (if bt939.2.2 = 0 then (if (!(bt939.1 == bt935.1) || (!(bt939.2.1 == bt935.2.1))) = true then (laws_FnLeast.j0 k t921 true bt922.1 bt922.2 bt928.1 bt928.2.1 bt935.1 bt935.2.1) else (if bt943.2.2 = 0 then (if bt947.2.2 = 0 then (if (!(bt947.1 == bt935.1) || (!(bt947.2.1 == bt935.2.1))) = true then (laws_FnLeast.j0 k t921 true bt922.1 bt922.2 bt928.1 bt928.2.1 bt935.1 bt935.2.1) else (if bt951.2 = 0 then (if bt951.1 = true then (if bt953.2 = 0 then (if (bt953.1 != (bt935.1 == bt943.1 && (bt935.2.1 == bt943.2.1))) = true then (laws_FnLeast.j0 k t921 true bt922.1 bt922.2 bt928.1 bt928.2.1 bt935.1 bt935.2.1) else (laws_FnLeast.j0 k t921 (decide (bt935.2.1 > bt922.2)) bt922.1 bt922.2 bt928.1 bt928.2.1 bt935.1 bt935.2.1)) else (laws_FnLeast.j0 k t921 true bt922.1 bt922.2 bt928.1 bt928.2.1 bt935.1 bt935.2.1)) else (laws_FnLeast.j0 k t921 true bt922.1 bt922.2 bt928.1 bt928.2.1 bt935.1 bt935.2.1)) else (laws_FnLeast.j0 k t921 true bt922.1 bt922.2 bt928.1 bt928.2.1 bt935.1 bt935.2.1))) else (laws_FnLeast.j0 k t921 true bt922.1 bt922.2 bt928.1 bt928.2.1 bt935.1 bt935.2.1)) else (laws_FnLeast.j0 k t921 true bt922.1 bt922.2 bt928.1 bt928.2.1 bt935.1 bt935.2.1))) else (laws_FnLeast.j0 k t921 true bt922.1 bt922.2 bt928.1 bt928.2.1 bt935.1 bt935.2.1))) else (laws_FnLeast.j0 k t921 true bt922.1 bt922.2 bt928.1 bt928.2.1 bt935.1 bt935.2.1)) else (laws_FnLeast.j0 k t921 true bt922.1 bt922.2 bt928.1 bt928.2.1 bt935.1 bt935.2.1)))))))))))))) = some true := by rw [if_neg (show ¬ (false = true) by decide)] at H; exact H
  clear H
  have H := H1
  clear H1
  replace H := Option.bind_eq_some_iff.mp H
  obtain ⟨t921, A50, H⟩ := H
  replace H : ((spec_A2Graph.f l0 t921).bind fun bt922 => ((spec_A2Order.f k l1 t921).bind fun t925 => ((impl_RenameGraph.f bt922.1 bt922.2 t925).bind fun bt928 => ((spec_A2Graph.f l1 t921).bind fun bt932 => ((impl_LeastGraph.f bt922.1 bt922.2).bind fun bt935 => ((impl_LeastGraph.f bt928.1 bt928.2.1).bind fun bt939 => ((impl_LeastGraph.f bt932.1 bt932.2).bind fun bt943 => ((impl_LeastGraph.f bt935.1 bt935.2.1).bind fun bt947 => ((impl_AreAlike.f bt922.1 bt922.2 bt928.1 bt928.2.1).bind fun bt951 => ((impl_AreAlike.f bt922.1 bt922.2 bt932.1 bt932.2).bind fun bt953 => ((spec_LeastGraph.f k bt922.1 bt922.2).bind fun bt955 => (if bt928.2.2 = 0 then (if bt935.2.2 = bt955.2.2 then (if (!(bt935.1 == bt955.1) || (!(bt935.2.1 == bt955.2.1))) = true then (laws_FnLeast.j0 k t921 true bt922.1 bt922.2 bt928.1 bt928.2.1 bt935.1 bt935.2.1) else (if bt939.2.2 = 0 then (if (!(bt939.1 == bt935.1) || (!(bt939.2.1 == bt935.2.1))) = true then (laws_FnLeast.j0 k t921 true bt922.1 bt922.2 bt928.1 bt928.2.1 bt935.1 bt935.2.1) else (if bt943.2.2 = 0 then (if bt947.2.2 = 0 then (if (!(bt947.1 == bt935.1) || (!(bt947.2.1 == bt935.2.1))) = true then (laws_FnLeast.j0 k t921 true bt922.1 bt922.2 bt928.1 bt928.2.1 bt935.1 bt935.2.1) else (if bt951.2 = 0 then (if bt951.1 = true then (if bt953.2 = 0 then (if (bt953.1 != (bt935.1 == bt943.1 && (bt935.2.1 == bt943.2.1))) = true then (laws_FnLeast.j0 k t921 true bt922.1 bt922.2 bt928.1 bt928.2.1 bt935.1 bt935.2.1) else (laws_FnLeast.j0 k t921 (decide (bt935.2.1 > bt922.2)) bt922.1 bt922.2 bt928.1 bt928.2.1 bt935.1 bt935.2.1)) else (laws_FnLeast.j0 k t921 true bt922.1 bt922.2 bt928.1 bt928.2.1 bt935.1 bt935.2.1)) else (laws_FnLeast.j0 k t921 true bt922.1 bt922.2 bt928.1 bt928.2.1 bt935.1 bt935.2.1)) else (laws_FnLeast.j0 k t921 true bt922.1 bt922.2 bt928.1 bt928.2.1 bt935.1 bt935.2.1))) else (laws_FnLeast.j0 k t921 true bt922.1 bt922.2 bt928.1 bt928.2.1 bt935.1 bt935.2.1)) else (laws_FnLeast.j0 k t921 true bt922.1 bt922.2 bt928.1 bt928.2.1 bt935.1 bt935.2.1))) else (laws_FnLeast.j0 k t921 true bt922.1 bt922.2 bt928.1 bt928.2.1 bt935.1 bt935.2.1))) else (laws_FnLeast.j0 k t921 true bt922.1 bt922.2 bt928.1 bt928.2.1 bt935.1 bt935.2.1)) else (laws_FnLeast.j0 k t921 true bt922.1 bt922.2 bt928.1 bt928.2.1 bt935.1 bt935.2.1))))))))))))) = some true := H
  have A5 := Aside0.mk A50
  clear A50
  replace H := Option.bind_eq_some_iff.mp H
  obtain ⟨⟨t922, t923⟩, A60, H⟩ := H
  replace H : ((spec_A2Order.f k l1 t921).bind fun t925 => ((impl_RenameGraph.f t922 t923 t925).bind fun bt928 => ((spec_A2Graph.f l1 t921).bind fun bt932 => ((impl_LeastGraph.f t922 t923).bind fun bt935 => ((impl_LeastGraph.f bt928.1 bt928.2.1).bind fun bt939 => ((impl_LeastGraph.f bt932.1 bt932.2).bind fun bt943 => ((impl_LeastGraph.f bt935.1 bt935.2.1).bind fun bt947 => ((impl_AreAlike.f t922 t923 bt928.1 bt928.2.1).bind fun bt951 => ((impl_AreAlike.f t922 t923 bt932.1 bt932.2).bind fun bt953 => ((spec_LeastGraph.f k t922 t923).bind fun bt955 => (if bt928.2.2 = 0 then (if bt935.2.2 = bt955.2.2 then (if (!(bt935.1 == bt955.1) || (!(bt935.2.1 == bt955.2.1))) = true then (laws_FnLeast.j0 k t921 true t922 t923 bt928.1 bt928.2.1 bt935.1 bt935.2.1) else (if bt939.2.2 = 0 then (if (!(bt939.1 == bt935.1) || (!(bt939.2.1 == bt935.2.1))) = true then (laws_FnLeast.j0 k t921 true t922 t923 bt928.1 bt928.2.1 bt935.1 bt935.2.1) else (if bt943.2.2 = 0 then (if bt947.2.2 = 0 then (if (!(bt947.1 == bt935.1) || (!(bt947.2.1 == bt935.2.1))) = true then (laws_FnLeast.j0 k t921 true t922 t923 bt928.1 bt928.2.1 bt935.1 bt935.2.1) else (if bt951.2 = 0 then (if bt951.1 = true then (if bt953.2 = 0 then (if (bt953.1 != (bt935.1 == bt943.1 && (bt935.2.1 == bt943.2.1))) = true then (laws_FnLeast.j0 k t921 true t922 t923 bt928.1 bt928.2.1 bt935.1 bt935.2.1) else (laws_FnLeast.j0 k t921 (decide (bt935.2.1 > t923)) t922 t923 bt928.1 bt928.2.1 bt935.1 bt935.2.1)) else (laws_FnLeast.j0 k t921 true t922 t923 bt928.1 bt928.2.1 bt935.1 bt935.2.1)) else (laws_FnLeast.j0 k t921 true t922 t923 bt928.1 bt928.2.1 bt935.1 bt935.2.1)) else (laws_FnLeast.j0 k t921 true t922 t923 bt928.1 bt928.2.1 bt935.1 bt935.2.1))) else (laws_FnLeast.j0 k t921 true t922 t923 bt928.1 bt928.2.1 bt935.1 bt935.2.1)) else (laws_FnLeast.j0 k t921 true t922 t923 bt928.1 bt928.2.1 bt935.1 bt935.2.1))) else (laws_FnLeast.j0 k t921 true t922 t923 bt928.1 bt928.2.1 bt935.1 bt935.2.1))) else (laws_FnLeast.j0 k t921 true t922 t923 bt928.1 bt928.2.1 bt935.1 bt935.2.1)) else (laws_FnLeast.j0 k t921 true t922 t923 bt928.1 bt928.2.1 bt935.1 bt935.2.1)))))))))))) = some true := H
  have A6 := Aside0.mk A60
  clear A60
  replace H := Option.bind_eq_some_iff.mp H
  obtain ⟨t925, A70, H⟩ := H
  replace H : ((impl_RenameGraph.f t922 t923 t925).bind fun bt928 => ((spec_A2Graph.f l1 t921).bind fun bt932 => ((impl_LeastGraph.f t922 t923).bind fun bt935 => ((impl_LeastGraph.f bt928.1 bt928.2.1).bind fun bt939 => ((impl_LeastGraph.f bt932.1 bt932.2).bind fun bt943 => ((impl_LeastGraph.f bt935.1 bt935.2.1).bind fun bt947 => ((impl_AreAlike.f t922 t923 bt928.1 bt928.2.1).bind fun bt951 => ((impl_AreAlike.f t922 t923 bt932.1 bt932.2).bind fun bt953 => ((spec_LeastGraph.f k t922 t923).bind fun bt955 => (if bt928.2.2 = 0 then (if bt935.2.2 = bt955.2.2 then (if (!(bt935.1 == bt955.1) || (!(bt935.2.1 == bt955.2.1))) = true then (laws_FnLeast.j0 k t921 true t922 t923 bt928.1 bt928.2.1 bt935.1 bt935.2.1) else (if bt939.2.2 = 0 then (if (!(bt939.1 == bt935.1) || (!(bt939.2.1 == bt935.2.1))) = true then (laws_FnLeast.j0 k t921 true t922 t923 bt928.1 bt928.2.1 bt935.1 bt935.2.1) else (if bt943.2.2 = 0 then (if bt947.2.2 = 0 then (if (!(bt947.1 == bt935.1) || (!(bt947.2.1 == bt935.2.1))) = true then (laws_FnLeast.j0 k t921 true t922 t923 bt928.1 bt928.2.1 bt935.1 bt935.2.1) else (if bt951.2 = 0 then (if bt951.1 = true then (if bt953.2 = 0 then (if (bt953.1 != (bt935.1 == bt943.1 && (bt935.2.1 == bt943.2.1))) = true then (laws_FnLeast.j0 k t921 true t922 t923 bt928.1 bt928.2.1 bt935.1 bt935.2.1) else (laws_FnLeast.j0 k t921 (decide (bt935.2.1 > t923)) t922 t923 bt928.1 bt928.2.1 bt935.1 bt935.2.1)) else (laws_FnLeast.j0 k t921 true t922 t923 bt928.1 bt928.2.1 bt935.1 bt935.2.1)) else (laws_FnLeast.j0 k t921 true t922 t923 bt928.1 bt928.2.1 bt935.1 bt935.2.1)) else (laws_FnLeast.j0 k t921 true t922 t923 bt928.1 bt928.2.1 bt935.1 bt935.2.1))) else (laws_FnLeast.j0 k t921 true t922 t923 bt928.1 bt928.2.1 bt935.1 bt935.2.1)) else (laws_FnLeast.j0 k t921 true t922 t923 bt928.1 bt928.2.1 bt935.1 bt935.2.1))) else (laws_FnLeast.j0 k t921 true t922 t923 bt928.1 bt928.2.1 bt935.1 bt935.2.1))) else (laws_FnLeast.j0 k t921 true t922 t923 bt928.1 bt928.2.1 bt935.1 bt935.2.1)) else (laws_FnLeast.j0 k t921 true t922 t923 bt928.1 bt928.2.1 bt935.1 bt935.2.1))))))))))) = some true := H
  have A7 := Aside0.mk A70
  clear A70
  replace H := Option.bind_eq_some_iff.mp H
  obtain ⟨⟨t928, t929, t930⟩, A80, H⟩ := H
  replace H : ((spec_A2Graph.f l1 t921).bind fun bt932 => ((impl_LeastGraph.f t922 t923).bind fun bt935 => ((impl_LeastGraph.f t928 t929).bind fun bt939 => ((impl_LeastGraph.f bt932.1 bt932.2).bind fun bt943 => ((impl_LeastGraph.f bt935.1 bt935.2.1).bind fun bt947 => ((impl_AreAlike.f t922 t923 t928 t929).bind fun bt951 => ((impl_AreAlike.f t922 t923 bt932.1 bt932.2).bind fun bt953 => ((spec_LeastGraph.f k t922 t923).bind fun bt955 => (if t930 = 0 then (if bt935.2.2 = bt955.2.2 then (if (!(bt935.1 == bt955.1) || (!(bt935.2.1 == bt955.2.1))) = true then (laws_FnLeast.j0 k t921 true t922 t923 t928 t929 bt935.1 bt935.2.1) else (if bt939.2.2 = 0 then (if (!(bt939.1 == bt935.1) || (!(bt939.2.1 == bt935.2.1))) = true then (laws_FnLeast.j0 k t921 true t922 t923 t928 t929 bt935.1 bt935.2.1) else (if bt943.2.2 = 0 then (if bt947.2.2 = 0 then (if (!(bt947.1 == bt935.1) || (!(bt947.2.1 == bt935.2.1))) = true then (laws_FnLeast.j0 k t921 true t922 t923 t928 t929 bt935.1 bt935.2.1) else (if bt951.2 = 0 then (if bt951.1 = true then (if bt953.2 = 0 then (if (bt953.1 != (bt935.1 == bt943.1 && (bt935.2.1 == bt943.2.1))) = true then (laws_FnLeast.j0 k t921 true t922 t923 t928 t929 bt935.1 bt935.2.1) else (laws_FnLeast.j0 k t921 (decide (bt935.2.1 > t923)) t922 t923 t928 t929 bt935.1 bt935.2.1)) else (laws_FnLeast.j0 k t921 true t922 t923 t928 t929 bt935.1 bt935.2.1)) else (laws_FnLeast.j0 k t921 true t922 t923 t928 t929 bt935.1 bt935.2.1)) else (laws_FnLeast.j0 k t921 true t922 t923 t928 t929 bt935.1 bt935.2.1))) else (laws_FnLeast.j0 k t921 true t922 t923 t928 t929 bt935.1 bt935.2.1)) else (laws_FnLeast.j0 k t921 true t922 t923 t928 t929 bt935.1 bt935.2.1))) else (laws_FnLeast.j0 k t921 true t922 t923 t928 t929 bt935.1 bt935.2.1))) else (laws_FnLeast.j0 k t921 true t922 t923 t928 t929 bt935.1 bt935.2.1)) else (laws_FnLeast.j0 k t921 true t922 t923 t928 t929 bt935.1 bt935.2.1)))))))))) = some true := H
  have A8 := Aside0.mk A80
  clear A80
  replace H := Option.bind_eq_some_iff.mp H
  obtain ⟨⟨t932, t933⟩, A90, H⟩ := H
  replace H : ((impl_LeastGraph.f t922 t923).bind fun bt935 => ((impl_LeastGraph.f t928 t929).bind fun bt939 => ((impl_LeastGraph.f t932 t933).bind fun bt943 => ((impl_LeastGraph.f bt935.1 bt935.2.1).bind fun bt947 => ((impl_AreAlike.f t922 t923 t928 t929).bind fun bt951 => ((impl_AreAlike.f t922 t923 t932 t933).bind fun bt953 => ((spec_LeastGraph.f k t922 t923).bind fun bt955 => (if t930 = 0 then (if bt935.2.2 = bt955.2.2 then (if (!(bt935.1 == bt955.1) || (!(bt935.2.1 == bt955.2.1))) = true then (laws_FnLeast.j0 k t921 true t922 t923 t928 t929 bt935.1 bt935.2.1) else (if bt939.2.2 = 0 then (if (!(bt939.1 == bt935.1) || (!(bt939.2.1 == bt935.2.1))) = true then (laws_FnLeast.j0 k t921 true t922 t923 t928 t929 bt935.1 bt935.2.1) else (if bt943.2.2 = 0 then (if bt947.2.2 = 0 then (if (!(bt947.1 == bt935.1) || (!(bt947.2.1 == bt935.2.1))) = true then (laws_FnLeast.j0 k t921 true t922 t923 t928 t929 bt935.1 bt935.2.1) else (if bt951.2 = 0 then (if bt951.1 = true then (if bt953.2 = 0 then (if (bt953.1 != (bt935.1 == bt943.1 && (bt935.2.1 == bt943.2.1))) = true then (laws_FnLeast.j0 k t921 true t922 t923 t928 t929 bt935.1 bt935.2.1) else (laws_FnLeast.j0 k t921 (decide (bt935.2.1 > t923)) t922 t923 t928 t929 bt935.1 bt935.2.1)) else (laws_FnLeast.j0 k t921 true t922 t923 t928 t929 bt935.1 bt935.2.1)) else (laws_FnLeast.j0 k t921 true t922 t923 t928 t929 bt935.1 bt935.2.1)) else (laws_FnLeast.j0 k t921 true t922 t923 t928 t929 bt935.1 bt935.2.1))) else (laws_FnLeast.j0 k t921 true t922 t923 t928 t929 bt935.1 bt935.2.1)) else (laws_FnLeast.j0 k t921 true t922 t923 t928 t929 bt935.1 bt935.2.1))) else (laws_FnLeast.j0 k t921 true t922 t923 t928 t929 bt935.1 bt935.2.1))) else (laws_FnLeast.j0 k t921 true t922 t923 t928 t929 bt935.1 bt935.2.1)) else (laws_FnLeast.j0 k t921 true t922 t923 t928 t929 bt935.1 bt935.2.1))))))))) = some true := H
  have A9 := Aside0.mk A90
  clear A90
  replace H := Option.bind_eq_some_iff.mp H
  obtain ⟨⟨t935, t936, t937⟩, A100, H⟩ := H
  replace H : ((impl_LeastGraph.f t928 t929).bind fun bt939 => ((impl_LeastGraph.f t932 t933).bind fun bt943 => ((impl_LeastGraph.f t935 t936).bind fun bt947 => ((impl_AreAlike.f t922 t923 t928 t929).bind fun bt951 => ((impl_AreAlike.f t922 t923 t932 t933).bind fun bt953 => ((spec_LeastGraph.f k t922 t923).bind fun bt955 => (if t930 = 0 then (if t937 = bt955.2.2 then (if (!(t935 == bt955.1) || (!(t936 == bt955.2.1))) = true then (laws_FnLeast.j0 k t921 true t922 t923 t928 t929 t935 t936) else (if bt939.2.2 = 0 then (if (!(bt939.1 == t935) || (!(bt939.2.1 == t936))) = true then (laws_FnLeast.j0 k t921 true t922 t923 t928 t929 t935 t936) else (if bt943.2.2 = 0 then (if bt947.2.2 = 0 then (if (!(bt947.1 == t935) || (!(bt947.2.1 == t936))) = true then (laws_FnLeast.j0 k t921 true t922 t923 t928 t929 t935 t936) else (if bt951.2 = 0 then (if bt951.1 = true then (if bt953.2 = 0 then (if (bt953.1 != (t935 == bt943.1 && (t936 == bt943.2.1))) = true then (laws_FnLeast.j0 k t921 true t922 t923 t928 t929 t935 t936) else (laws_FnLeast.j0 k t921 (decide (t936 > t923)) t922 t923 t928 t929 t935 t936)) else (laws_FnLeast.j0 k t921 true t922 t923 t928 t929 t935 t936)) else (laws_FnLeast.j0 k t921 true t922 t923 t928 t929 t935 t936)) else (laws_FnLeast.j0 k t921 true t922 t923 t928 t929 t935 t936))) else (laws_FnLeast.j0 k t921 true t922 t923 t928 t929 t935 t936)) else (laws_FnLeast.j0 k t921 true t922 t923 t928 t929 t935 t936))) else (laws_FnLeast.j0 k t921 true t922 t923 t928 t929 t935 t936))) else (laws_FnLeast.j0 k t921 true t922 t923 t928 t929 t935 t936)) else (laws_FnLeast.j0 k t921 true t922 t923 t928 t929 t935 t936)))))))) = some true := H
  have A10 := Aside0.mk A100
  clear A100
  replace H := Option.bind_eq_some_iff.mp H
  obtain ⟨⟨t939, t940, t941⟩, A110, H⟩ := H
  replace H : ((impl_LeastGraph.f t932 t933).bind fun bt943 => ((impl_LeastGraph.f t935 t936).bind fun bt947 => ((impl_AreAlike.f t922 t923 t928 t929).bind fun bt951 => ((impl_AreAlike.f t922 t923 t932 t933).bind fun bt953 => ((spec_LeastGraph.f k t922 t923).bind fun bt955 => (if t930 = 0 then (if t937 = bt955.2.2 then (if (!(t935 == bt955.1) || (!(t936 == bt955.2.1))) = true then (laws_FnLeast.j0 k t921 true t922 t923 t928 t929 t935 t936) else (if t941 = 0 then (if (!(t939 == t935) || (!(t940 == t936))) = true then (laws_FnLeast.j0 k t921 true t922 t923 t928 t929 t935 t936) else (if bt943.2.2 = 0 then (if bt947.2.2 = 0 then (if (!(bt947.1 == t935) || (!(bt947.2.1 == t936))) = true then (laws_FnLeast.j0 k t921 true t922 t923 t928 t929 t935 t936) else (if bt951.2 = 0 then (if bt951.1 = true then (if bt953.2 = 0 then (if (bt953.1 != (t935 == bt943.1 && (t936 == bt943.2.1))) = true then (laws_FnLeast.j0 k t921 true t922 t923 t928 t929 t935 t936) else (laws_FnLeast.j0 k t921 (decide (t936 > t923)) t922 t923 t928 t929 t935 t936)) else (laws_FnLeast.j0 k t921 true t922 t923 t928 t929 t935 t936)) else (laws_FnLeast.j0 k t921 true t922 t923 t928 t929 t935 t936)) else (laws_FnLeast.j0 k t921 true t922 t923 t928 t929 t935 t936))) else (laws_FnLeast.j0 k t921 true t922 t923 t928 t929 t935 t936)) else (laws_FnLeast.j0 k t921 true t922 t923 t928 t929 t935 t936))) else (laws_FnLeast.j0 k t921 true t922 t923 t928 t929 t935 t936))) else (laws_FnLeast.j0 k t921 true t922 t923 t928 t929 t935 t936)) else (laws_FnLeast.j0 k t921 true t922 t923 t928 t929 t935 t936))))))) = some true := H
  have A11 := Aside0.mk A110
  clear A110
  replace H := Option.bind_eq_some_iff.mp H
  obtain ⟨⟨t943, t944, t945⟩, A120, H⟩ := H
  replace H : ((impl_LeastGraph.f t935 t936).bind fun bt947 => ((impl_AreAlike.f t922 t923 t928 t929).bind fun bt951 => ((impl_AreAlike.f t922 t923 t932 t933).bind fun bt953 => ((spec_LeastGraph.f k t922 t923).bind fun bt955 => (if t930 = 0 then (if t937 = bt955.2.2 then (if (!(t935 == bt955.1) || (!(t936 == bt955.2.1))) = true then (laws_FnLeast.j0 k t921 true t922 t923 t928 t929 t935 t936) else (if t941 = 0 then (if (!(t939 == t935) || (!(t940 == t936))) = true then (laws_FnLeast.j0 k t921 true t922 t923 t928 t929 t935 t936) else (if t945 = 0 then (if bt947.2.2 = 0 then (if (!(bt947.1 == t935) || (!(bt947.2.1 == t936))) = true then (laws_FnLeast.j0 k t921 true t922 t923 t928 t929 t935 t936) else (if bt951.2 = 0 then (if bt951.1 = true then (if bt953.2 = 0 then (if (bt953.1 != (t935 == t943 && (t936 == t944))) = true then (laws_FnLeast.j0 k t921 true t922 t923 t928 t929 t935 t936) else (laws_FnLeast.j0 k t921 (decide (t936 > t923)) t922 t923 t928 t929 t935 t936)) else (laws_FnLeast.j0 k t921 true t922 t923 t928 t929 t935 t936)) else (laws_FnLeast.j0 k t921 true t922 t923 t928 t929 t935 t936)) else (laws_FnLeast.j0 k t921 true t922 t923 t928 t929 t935 t936))) else (laws_FnLeast.j0 k t921 true t922 t923 t928 t929 t935 t936)) else (laws_FnLeast.j0 k t921 true t922 t923 t928 t929 t935 t936))) else (laws_FnLeast.j0 k t921 true t922 t923 t928 t929 t935 t936))) else (laws_FnLeast.j0 k t921 true t922 t923 t928 t929 t935 t936)) else (laws_FnLeast.j0 k t921 true t922 t923 t928 t929 t935 t936)))))) = some true := H
  have A12 := Aside0.mk A120
  clear A120
  replace H := Option.bind_eq_some_iff.mp H
  obtain ⟨⟨t947, t948, t949⟩, A130, H⟩ := H
  replace H : ((impl_AreAlike.f t922 t923 t928 t929).bind fun bt951 => ((impl_AreAlike.f t922 t923 t932 t933).bind fun bt953 => ((spec_LeastGraph.f k t922 t923).bind fun bt955 => (if t930 = 0 then (if t937 = bt955.2.2 then (if (!(t935 == bt955.1) || (!(t936 == bt955.2.1))) = true then (laws_FnLeast.j0 k t921 true t922 t923 t928 t929 t935 t936) else (if t941 = 0 then (if (!(t939 == t935) || (!(t940 == t936))) = true then (laws_FnLeast.j0 k t921 true t922 t923 t928 t929 t935 t936) else (if t945 = 0 then (if t949 = 0 then (if (!(t947 == t935) || (!(t948 == t936))) = true then (laws_FnLeast.j0 k t921 true t922 t923 t928 t929 t935 t936) else (if bt951.2 = 0 then (if bt951.1 = true then (if bt953.2 = 0 then (if (bt953.1 != (t935 == t943 && (t936 == t944))) = true then (laws_FnLeast.j0 k t921 true t922 t923 t928 t929 t935 t936) else (laws_FnLeast.j0 k t921 (decide (t936 > t923)) t922 t923 t928 t929 t935 t936)) else (laws_FnLeast.j0 k t921 true t922 t923 t928 t929 t935 t936)) else (laws_FnLeast.j0 k t921 true t922 t923 t928 t929 t935 t936)) else (laws_FnLeast.j0 k t921 true t922 t923 t928 t929 t935 t936))) else (laws_FnLeast.j0 k t921 true t922 t923 t928 t929 t935 t936)) else (laws_FnLeast.j0 k t921 true t922 t923 t928 t929 t935 t936))) else (laws_FnLeast.j0 k t921 true t922 t923 t928 t929 t935 t936))) else (laws_FnLeast.j0 k t921 true t922 t923 t928 t929 t935 t936)) else (laws_FnLeast.j0 k t921 true t922 t923 t928 t929 t935 t936))))) = some true := H
  have A13 := Aside0.mk A130
  clear A130
  replace H := Option.bind_eq_some_iff.mp H
  obtain ⟨⟨t951, t952⟩, A140, H⟩ := H
  replace H : ((impl_AreAlike.f t922 t923 t932 t933).bind fun bt953 => ((spec_LeastGraph.f k t922 t923).bind fun bt955 => (if t930 = 0 then (if t937 = bt955.2.2 then (if (!(t935 == bt955.1) || (!(t936 == bt955.2.1))) = true then (laws_FnLeast.j0 k t921 true t922 t923 t928 t929 t935 t936) else (if t941 = 0 then (if (!(t939 == t935) || (!(t940 == t936))) = true then (laws_FnLeast.j0 k t921 true t922 t923 t928 t929 t935 t936) else (if t945 = 0 then (if t949 = 0 then (if (!(t947 == t935) || (!(t948 == t936))) = true then (laws_FnLeast.j0 k t921 true t922 t923 t928 t929 t935 t936) else (if t952 = 0 then (if t951 = true then (if bt953.2 = 0 then (if (bt953.1 != (t935 == t943 && (t936 == t944))) = true then (laws_FnLeast.j0 k t921 true t922 t923 t928 t929 t935 t936) else (laws_FnLeast.j0 k t921 (decide (t936 > t923)) t922 t923 t928 t929 t935 t936)) else (laws_FnLeast.j0 k t921 true t922 t923 t928 t929 t935 t936)) else (laws_FnLeast.j0 k t921 true t922 t923 t928 t929 t935 t936)) else (laws_FnLeast.j0 k t921 true t922 t923 t928 t929 t935 t936))) else (laws_FnLeast.j0 k t921 true t922 t923 t928 t929 t935 t936)) else (laws_FnLeast.j0 k t921 true t922 t923 t928 t929 t935 t936))) else (laws_FnLeast.j0 k t921 true t922 t923 t928 t929 t935 t936))) else (laws_FnLeast.j0 k t921 true t922 t923 t928 t929 t935 t936)) else (laws_FnLeast.j0 k t921 true t922 t923 t928 t929 t935 t936)))) = some true := H
  have A14 := Aside0.mk A140
  clear A140
  replace H := Option.bind_eq_some_iff.mp H
  obtain ⟨⟨t953, t954⟩, A150, H⟩ := H
  replace H : ((spec_LeastGraph.f k t922 t923).bind fun bt955 => (if t930 = 0 then (if t937 = bt955.2.2 then (if (!(t935 == bt955.1) || (!(t936 == bt955.2.1))) = true then (laws_FnLeast.j0 k t921 true t922 t923 t928 t929 t935 t936) else (if t941 = 0 then (if (!(t939 == t935) || (!(t940 == t936))) = true then (laws_FnLeast.j0 k t921 true t922 t923 t928 t929 t935 t936) else (if t945 = 0 then (if t949 = 0 then (if (!(t947 == t935) || (!(t948 == t936))) = true then (laws_FnLeast.j0 k t921 true t922 t923 t928 t929 t935 t936) else (if t952 = 0 then (if t951 = true then (if t954 = 0 then (if (t953 != (t935 == t943 && (t936 == t944))) = true then (laws_FnLeast.j0 k t921 true t922 t923 t928 t929 t935 t936) else (laws_FnLeast.j0 k t921 (decide (t936 > t923)) t922 t923 t928 t929 t935 t936)) else (laws_FnLeast.j0 k t921 true t922 t923 t928 t929 t935 t936)) else (laws_FnLeast.j0 k t921 true t922 t923 t928 t929 t935 t936)) else (laws_FnLeast.j0 k t921 true t922 t923 t928 t929 t935 t936))) else (laws_FnLeast.j0 k t921 true t922 t923 t928 t929 t935 t936)) else (laws_FnLeast.j0 k t921 true t922 t923 t928 t929 t935 t936))) else (laws_FnLeast.j0 k t921 true t922 t923 t928 t929 t935 t936))) else (laws_FnLeast.j0 k t921 true t922 t923 t928 t929 t935 t936)) else (laws_FnLeast.j0 k t921 true t922 t923 t928 t929 t935 t936))) = some true := H
  have A15 := Aside0.mk A150
  clear A150
  replace H := Option.bind_eq_some_iff.mp H
  obtain ⟨⟨t955, t956, t957⟩, A160, H⟩ := H
  replace H : (if t930 = 0 then (if t937 = t957 then (if (!(t935 == t955) || (!(t936 == t956))) = true then (laws_FnLeast.j0 k t921 true t922 t923 t928 t929 t935 t936) else (if t941 = 0 then (if (!(t939 == t935) || (!(t940 == t936))) = true then (laws_FnLeast.j0 k t921 true t922 t923 t928 t929 t935 t936) else (if t945 = 0 then (if t949 = 0 then (if (!(t947 == t935) || (!(t948 == t936))) = true then (laws_FnLeast.j0 k t921 true t922 t923 t928 t929 t935 t936) else (if t952 = 0 then (if t951 = true then (if t954 = 0 then (if (t953 != (t935 == t943 && (t936 == t944))) = true then (laws_FnLeast.j0 k t921 true t922 t923 t928 t929 t935 t936) else (laws_FnLeast.j0 k t921 (decide (t936 > t923)) t922 t923 t928 t929 t935 t936)) else (laws_FnLeast.j0 k t921 true t922 t923 t928 t929 t935 t936)) else (laws_FnLeast.j0 k t921 true t922 t923 t928 t929 t935 t936)) else (laws_FnLeast.j0 k t921 true t922 t923 t928 t929 t935 t936))) else (laws_FnLeast.j0 k t921 true t922 t923 t928 t929 t935 t936)) else (laws_FnLeast.j0 k t921 true t922 t923 t928 t929 t935 t936))) else (laws_FnLeast.j0 k t921 true t922 t923 t928 t929 t935 t936))) else (laws_FnLeast.j0 k t921 true t922 t923 t928 t929 t935 t936)) else (laws_FnLeast.j0 k t921 true t922 t923 t928 t929 t935 t936)) = some true := H
  have A16 := Aside0.mk A160
  clear A160
  have HC17 := Aside0.mk H
  clear H
  go_enter Try.func10, Try.ntmps10
  try go_wp2_with (first | ((with_reducible refine gate_callee (f := 31) rfl ?_); refine goesL_ (some 36) rfl rfl Try.func31 (by kernel_rfl) rfl #[.slice A0 l0.length c0, .slice A1 l1.length c1] rfl (by (try simp only [List.map_toArray, List.map_cons, List.map_nil]); first | done | rfl | (simp only [List.length_drop, List.length_take]; rfl)) ?_; (with_reducible refine (laws_a2Long.calls _ _ l0 _ _ l1 false _ ?side1 ?side2 ?side3 ?side4 A3.out).mono ?_); (case side1 => repeat (first | exact HR0.out | (with_reducible refine Kd.C_alloc ?_ _) | (with_reducible refine Kd.C_drewN ?_ _) | (with_reducible refine Kd.C_drew ?_))); (case side2 => exact HC0.out); (case side3 => repeat (first | exact HR1.out | (with_reducible refine Kd.C_alloc ?_ _) | (with_reducible refine Kd.C_drewN ?_ _) | (with_reducible refine Kd.C_drew ?_))); (case side4 => exact HC1.out); rintro e w' ⟨rfl, ⟨nd, rfl⟩⟩; refine ⟨_, rfl, ?_⟩) | ((with_reducible refine gate_callee (f := 32) rfl ?_); refine goesL_ (some 38) rfl rfl Try.func32 (by kernel_rfl) rfl #[.slice A1 l1.length c1, .int .i64 0, .int .i64 6] rfl (by (try simp only [List.map_toArray, List.map_cons, List.map_nil]); first | done | rfl | (simp only [List.length_drop, List.length_take]; rfl)) ?_; (with_reducible refine (laws_a2At.calls _ _ l1 0 6 t921 _ ?side1 ?side2 A5.out).mono ?_); (case side1 => repeat (first | exact HR1.out | (with_reducible refine Kd.C_alloc ?_ _) | (with_reducible refine Kd.C_drewN ?_ _) | (with_reducible refine Kd.C_drew ?_))); (case side2 => exact HC1.out); rintro e w' ⟨rfl, ⟨nd, rfl⟩⟩; refine ⟨_, rfl, ?_⟩) | ((with_reducible refine gate_callee (f := 33) rfl ?_); refine goesL_ (some 41) rfl rfl Try.func33 (by kernel_rfl) rfl #[.slice A0 l0.length c0, .int .i64 t921] rfl (by (try simp only [List.map_toArray, List.map_cons, List.map_nil]); first | done | rfl | (simp only [List.length_drop, List.length_take]; rfl)) ?_; (with_reducible refine (spec_A2Graph.calls _ _ l0 t921 t922 t923 _ ?side1 ?side2 A6.out).mono ?_); (case side1 => repeat (first | exact HR0.out | (with_reducible refine Kd.C_alloc ?_ _) | (with_reducible refine Kd.C_drewN ?_ _) | (with_reducible refine Kd.C_drew ?_))); (case side2 => exact HC0.out); rintro e w18 ⟨rfl, hb⟩; refine ⟨_, rfl, ?_⟩; have n0_ := Aside0.mk (below_step (by repeat (first | (with_reducible first | exact HB.out | apply below_alloc | apply pw_below_drewN | apply below_drew1) | exact HB.out)) hb); clear HB; have HB := n0_; clear n0_; (try clear hb); (try clear hb2); (try clear hk); (try clear hi)) | ((with_reducible refine gate_dst (N := 6) rfl ?_); refine box_event ?hg (N := 6) ?hd (cs := #[.int .i64 0, .int .u32 0]) (t := 27) ?hr ?_; (case hd => rfl); (case hg => rfl); (case hr => first | (go_simp; done) | (go_simp; rfl)); intro gb924 hg w19 hbox hb; have n0_ := Aside0.mk (below_step (by repeat (first | (with_reducible first | exact HB.out | apply below_alloc | apply pw_below_drewN | apply below_drew1) | exact HB.out)) hb); have n1_ := Aside0.mk (hbox); have n2_ := Aside0.mk ((by rw [hg]; exact (below_size (by repeat (first | (with_reducible first | exact HB.out | apply below_alloc | apply pw_below_drewN | apply below_drew1) | exact HB.out))) : w.heap.size ≤ gb924)); have n3_ := n2_; clear HB; have HB := n0_; have BK924 := n1_; have GW924 := n2_; have GE924 := n3_; clear n0_ n1_ n2_ n3_; clear hb hbox hg; have hcz20_0 : w19.cell? ⟨gb924, 0, none⟩ = some (.int .i64 0) := (blk_cell BK924.out 0).trans rfl; have hcz20_1 : w19.cell? ⟨gb924, 1, none⟩ = some (.int .u32 0) := (blk_cell BK924.out 1).trans rfl; have hfz20_0 := blk_frozen BK924.out 0; have hfz20_1 := blk_frozen BK924.out 1))
  have n0_ : Aside0 (((w19.setCell ⟨gb924, 0, none⟩ (.int .i64 t922)).setCell ⟨gb924, 1, none⟩ (.int .u32 t923)).heap[gb924]? = some (.cells #[.int .i64 t922, .int .u32 t923] 27 (0, 0))) := ⟨by (with_reducible repeat (first | refine blk_drewN ?_ _ | refine blk_drew ?_ | refine blk_alloc ?_ _)); refine blk_put (cs := #[.int .i64 t922, .int .u32 0]) ?_ 1 _ rfl; (with_reducible repeat (first | refine blk_drewN ?_ _ | refine blk_drew ?_ | refine blk_alloc ?_ _)); refine blk_put (cs := #[.int .i64 0, .int .u32 0]) ?_ 0 _ rfl; (with_reducible repeat (first | refine blk_drewN ?_ _ | refine blk_drew ?_ | refine blk_alloc ?_ _)); exact BK924.out⟩
  have n1_ : Aside0 (Below w.heap.size w ((w19.setCell ⟨gb924, 0, none⟩ (.int .i64 t922)).setCell ⟨gb924, 1, none⟩ (.int .u32 t923))) := ⟨by repeat (first | (with_reducible first | exact HB.out | apply below_alloc | apply pw_below_drewN | apply below_drew1 | refine below_set ?_ GE924.out) | exact HB.out)⟩
  (try clear BK924)
  (try clear HB)
  generalize ((w19.setCell ⟨gb924, 0, none⟩ (.int .i64 t922)).setCell ⟨gb924, 1, none⟩ (.int .u32 t923)) = w21 at n0_ n1_ ⊢
  have BK924 := n0_
  have HB := n1_
  clear n0_ n1_
  have n0_ := Aside0.mk (blk_drew BK924.out)
  have n1_ := Aside0.mk (below_drew1 HB.out)
  clear BK924 HB
  have BK924 := n0_
  have HB := n1_
  clear n0_ n1_
  refine start_ (n := 11) (S := fun w' => w'.cell? ⟨gb924, 0, none⟩ = some (.int .i64 t922) ∧ w'.cell? ⟨gb924, 1, none⟩ = some (.int .u32 t923)) (ds := []) #[false, false, false, false, false, false, false, false, false, false, false] (by kernel_rfl) rfl rfl ⟨(blk_cell BK924.out 0).trans rfl, (blk_cell BK924.out 1).trans rfl⟩ (fun hHeld => ?_); refine with_tabW laws_FnLeast.tab5 laws_FnLeast.bits5 (fun HT_ HW_ => ?_)
  generalize w21.drew = w22 at BK924 HB hHeld ⊢
  refine pure_ (i := 1) (N := some 44) (v := ?_) (a' := ?_) #[false, true, false, false, false, false, false, false, false, false, false] rfl rfl (any_of HT_.out (by kernel_rfl)) (fun _ _ _ h => h) (Or.inl ⟨by rfl, ?_⟩) ?_ ?_
  rotate_left
  ·intro w'
   go_simp
   with_reducible rfl
  rotate_left
  ·simp only [Act.put, List.setIfInBounds_toArray, List.set_cons_zero, List.set_cons_succ, i64_w, i32_w]
   rfl
  refine pure_ (i := 2) (N := some 45) (v := ?_) (a' := ?_) #[false, true, true, false, false, false, false, false, false, false, false] rfl rfl (any_of HT_.out (by kernel_rfl)) (fun _ _ _ h => h) (Or.inl ⟨by rfl, ?_⟩) ?_ ?_
  rotate_left
  ·intro w'
   go_simp
   with_reducible rfl
  rotate_left
  ·simp only [Act.put, List.setIfInBounds_toArray, List.set_cons_zero, List.set_cons_succ, i64_w, i32_w]
   rfl
  refine take_ (i := 0) (N := some 43) (v := ?_) (a' := ?_) #[true, true, true, false, false, false, false, false, false, false, false] rfl rfl (take_ofW HT_.out HW_.out (by kernel_rfl)) (fun _ _ _ h => h) (Or.inl ⟨by rfl, ?_⟩) hHeld ?_ ?_
  rotate_left
  ·rintro w' ⟨s0, s1⟩
   go_simp
   with_reducible rfl
  rotate_left
  ·simp only [Act.put, List.setIfInBounds_toArray, List.set_cons_zero, List.set_cons_succ, i64_w, i32_w]
   rfl
  refine join_ (σ := Value × Nat) 2 #[true, true, true, true, true, true, true, true, true, false, false] (fun s_ => [(46, s_.1), (47, .tuple #[.agg #[.int .i64 t928, .int .u32 t929], .int .i64 t930]), (7, .pointer (some ⟨s_.2, 0, none⟩)), (42, .tuple #[.agg #[.int .i64 t928, .int .u32 t929], .int .i64 t930]), (48, .agg #[.int .i64 t928, .int .u32 t929]), (49, .int .i64 t930)]) (fun s_ w' => (w'.cell? ⟨gb924, 0, none⟩ = some (.int .i64 t922) ∧ w'.cell? ⟨gb924, 1, none⟩ = some (.int .u32 t923)) ∧ (Kd.R (Kd.int .i64) 2 w' w.heap.size (fun _ => True) s_.1 t925) ∧ (w'.heap[gb924]? = some (.cells #[.int .i64 t922, .int .u32 t923] 27 (0, 0))) ∧ (w'.heap[s_.2]? = some (.cells #[.int .i64 0, .int .u32 0] 27 (0, 0))) ∧ (w.heap.size ≤ s_.2) ∧ (w.heap.size ≤ s_.2) ∧ (gb924 ≠ s_.2) ∧ (s_.2 ≠ gb924) ∧ (Below w.heap.size w w')) ?_ ?_
  rotate_left
  ·intro hCont
   refine two_ (i := 3) (j := 8) (Ni := some 46) (Nj := some 7) #[true, true, true, true, false, false, false, false, false, false, false] #[true, true, true, false, false, false, false, false, true, false, false] rfl rfl rfl rfl (two_of HT_.out (by kernel_rfl)) (by decide) (by decide) (fun K hK => ?_) (fun K hK => ?_)
   ·skip
    refine goes_ Try.func37 (by kernel_rfl) rfl #[.slice A1 l1.length c1, .int .i64 t921] (by rfl) rfl rfl (by first | rfl | (simp only [List.map_toArray, List.map_cons, List.map_nil, List.length_drop, List.length_take]; rfl)) ?_
    with_reducible refine (spec_A2Order.calls k _ _ l1 t921 t925 _ ?side1 ?side2 A7.out).mono ?_
    (case side1 => repeat (first | exact (Kd.C_below HR1.out HB.out) | (with_reducible refine Kd.C_alloc ?_ _) | (with_reducible refine Kd.C_drewN ?_ _) | (with_reducible refine Kd.C_drew ?_)))
    (case side2 => exact HC1.out)
    rintro e w23 ⟨v926, rfl, ho0, hb⟩
    refine ⟨_, rfl, ?_⟩
    have n0_ := Aside0.mk (Kd.R_lower ho0 (below_size HB.out))
    have n1_ := Aside0.mk (blk_below BK924.out hb)
    have n2_ := Aside0.mk (below_step HB.out hb)
    clear BK924 HB
    have HO927 := n0_
    have BK924 := n1_
    have HB := n2_
    clear n0_ n1_ n2_
    (try clear hb)
    (try clear hb2)
    (try clear hk)
    (try clear hi)
    (try clear ho0)
    obtain ⟨Ao24, co24, eo24⟩ := Kd.R_slice HO927.out
    (first | subst eo24 | (injection eo24 with f1_ f2_ f3_; have f4_ := f1_.symm; have f5_ := f3_.symm; clear f1_ f2_ f3_; subst f4_; subst f5_))
    refine hK.out _ _ ⟨(blk_cell BK924.out 0).trans rfl, (blk_cell BK924.out 1).trans rfl⟩ (fun hHeld => ?_)
    clear hK K
    refine norm_ (a' := ?_) ?_ ?_
    rotate_left
    ·show Act.put _ (some 46) _ = _
     simp only [Act.put, List.setIfInBounds_toArray, List.set_cons_zero, List.set_cons_succ, i64_w, i32_w]
     rfl
    refine two_ (i := 4) (j := 8) (Ni := some 47) (Nj := some 7) #[true, true, true, true, true, false, false, false, false, false, false] #[true, true, true, true, false, false, false, false, true, false, false] rfl rfl rfl rfl (two_of HT_.out (by kernel_rfl)) (by decide) (by decide) (fun K hK => ?_) (fun K hK => ?_)
    ·skip
     refine goes_ Try.func39 (by kernel_rfl) rfl #[.agg #[.int .i64 t922, .int .u32 t923], .slice Ao24 t925.length co24] (by rfl) rfl rfl (by first | rfl | (simp only [List.map_toArray, List.map_cons, List.map_nil, List.length_drop, List.length_take]; rfl)) ?_
     with_reducible refine (impl_RenameGraph.calls t922 t923 _ _ t925 t928 t929 t930 _ ?side1 ?side2 A8.out).mono ?_
     (case side1 => repeat (first | exact (Kd.R_reads' HO927.out).2.2 | (with_reducible refine Kd.C_alloc ?_ _) | (with_reducible refine Kd.C_drewN ?_ _) | (with_reducible refine Kd.C_drew ?_)))
     (case side2 => exact (Kd.R_reads' HO927.out).2.1)
     rintro e w25 ⟨rfl, hb⟩
     refine ⟨_, rfl, ?_⟩
     have n0_ := Aside0.mk (Kd.R_below (by (with_reducible repeat (first | apply Kd.R_alloc | apply Kd.R_drewN | apply Kd.R_drew)); exact HO927.out) hb)
     have n1_ := Aside0.mk (blk_below BK924.out hb)
     have n2_ := Aside0.mk (below_step HB.out hb)
     clear HO927 BK924 HB
     have HO927 := n0_
     have BK924 := n1_
     have HB := n2_
     clear n0_ n1_ n2_
     (try clear hb)
     (try clear hb2)
     (try clear hk)
     (try clear hi)
     refine hK.out _ _ ⟨(blk_cell BK924.out 0).trans rfl, (blk_cell BK924.out 1).trans rfl⟩ (fun hHeld => ?_)
     clear hK K
     refine norm_ (a' := ?_) ?_ ?_
     rotate_left
     ·show Act.put _ (some 47) _ = _
      simp only [Act.put, List.setIfInBounds_toArray, List.set_cons_zero, List.set_cons_succ, i64_w, i32_w]
      rfl
     refine pure_ (i := 5) (N := some 42) (v := ?_) (a' := ?_) #[true, true, true, true, true, true, false, false, false, false, false] rfl rfl (any_of HT_.out (by kernel_rfl)) (fun _ _ _ h => h) (Or.inl ⟨by rfl, ?_⟩) ?_ ?_
     rotate_left
     ·intro w'
      go_simp
      with_reducible rfl
     rotate_left
     ·simp only [Act.put, List.setIfInBounds_toArray, List.set_cons_zero, List.set_cons_succ, i64_w, i32_w]
      rfl
     refine pure_ (i := 6) (N := some 48) (v := ?_) (a' := ?_) #[true, true, true, true, true, true, true, false, false, false, false] rfl rfl (any_of HT_.out (by kernel_rfl)) (fun _ _ _ h => h) (Or.inl ⟨by rfl, ?_⟩) ?_ ?_
     rotate_left
     ·intro w'
      go_simp
      with_reducible rfl
     rotate_left
     ·simp only [Act.put, List.setIfInBounds_toArray, List.set_cons_zero, List.set_cons_succ, i64_w, i32_w]
      rfl
     refine pure_ (i := 7) (N := some 49) (v := ?_) (a' := ?_) #[true, true, true, true, true, true, true, true, false, false, false] rfl rfl (any_of HT_.out (by kernel_rfl)) (fun _ _ _ h => h) (Or.inl ⟨by rfl, ?_⟩) ?_ ?_
     rotate_left
     ·intro w'
      go_simp
      with_reducible rfl
     rotate_left
     ·simp only [Act.put, List.setIfInBounds_toArray, List.set_cons_zero, List.set_cons_succ, i64_w, i32_w]
      rfl
     refine one_ (i := 8) (N := some 7) #[true, true, true, true, true, true, true, true, true, false, false] rfl rfl (one_of HT_.out (by kernel_rfl)) (by decide) (fun K hK => ?_)
     refine box_step ?hg (N := 7) ?hd (cs := #[.int .i64 0, .int .u32 0]) (t := 27) ?hr ?_; (case hd => rfl); (case hg => rfl); (case hr => first | (go_simp; done) | (go_simp; rfl))
     intro gb931 hg w26 hbox hb
     have n0_ := Aside0.mk (Kd.R_below (by (with_reducible repeat (first | apply Kd.R_alloc | apply Kd.R_drewN | apply Kd.R_drew)); exact HO927.out) hb)
     have n1_ := Aside0.mk (blk_below BK924.out hb)
     have n2_ := Aside0.mk (below_step HB.out hb)
     have n3_ := Aside0.mk (hbox)
     have n4_ := Aside0.mk ((by rw [hg]; exact (below_size HB.out) : w.heap.size ≤ gb931))
     have n5_ := n4_
     have n6_ := Aside0.mk ((by rw [hg]; exact Nat.ne_of_lt (blk_lt BK924.out) : gb924 ≠ gb931))
     have n7_ := Aside0.mk (Ne.symm n6_.out)
     clear HO927 BK924 HB
     have HO927 := n0_
     have BK924 := n1_
     have HB := n2_
     have BK931 := n3_
     have GW931 := n4_
     have GE931 := n5_
     have NB924_931 := n6_
     have NB931_924 := n7_
     clear n0_ n1_ n2_ n3_ n4_ n5_ n6_ n7_
     clear hb hbox hg
     refine hK.out _ _ ⟨(blk_cell BK924.out 0).trans rfl, (blk_cell BK924.out 1).trans rfl⟩ (fun hHeld => ?_)
     clear hK K
     refine norm_ (a' := ?_) ?_ ?_
     rotate_left
     ·show Act.put _ (some 7) _ = _
      simp only [Act.put, List.setIfInBounds_toArray, List.set_cons_zero, List.set_cons_succ, i64_w, i32_w]
      rfl
     exact norm_ (by simp only [putAll, Act.put, List.setIfInBounds_toArray, List.set_cons_zero, List.set_cons_succ]) (hCont (.slice Ao24 t925.length co24, gb931) _ ⟨hHeld, (by (with_reducible repeat (first | apply Kd.R_alloc | apply Kd.R_drewN | apply Kd.R_drew)); exact HO927.out), BK924.out, BK931.out, GW931.out, GE931.out, NB924_931.out, NB931_924.out, HB.out⟩)
    ·skip
     refine box_step ?hg (N := 7) ?hd (cs := #[.int .i64 0, .int .u32 0]) (t := 27) ?hr ?_; (case hd => rfl); (case hg => rfl); (case hr => first | (go_simp; done) | (go_simp; rfl))
     intro gb931 hg w24 hbox hb
     have n0_ := Aside0.mk (Kd.R_below (by (with_reducible repeat (first | apply Kd.R_alloc | apply Kd.R_drewN | apply Kd.R_drew)); exact HO927.out) hb)
     have n1_ := Aside0.mk (blk_below BK924.out hb)
     have n2_ := Aside0.mk (below_step HB.out hb)
     have n3_ := Aside0.mk (hbox)
     have n4_ := Aside0.mk ((by rw [hg]; exact (below_size HB.out) : w.heap.size ≤ gb931))
     have n5_ := n4_
     have n6_ := Aside0.mk ((by rw [hg]; exact Nat.ne_of_lt (blk_lt BK924.out) : gb924 ≠ gb931))
     have n7_ := Aside0.mk (Ne.symm n6_.out)
     clear HO927 BK924 HB
     have HO927 := n0_
     have BK924 := n1_
     have HB := n2_
     have BK931 := n3_
     have GW931 := n4_
     have GE931 := n5_
     have NB924_931 := n6_
     have NB931_924 := n7_
     clear n0_ n1_ n2_ n3_ n4_ n5_ n6_ n7_
     clear hb hbox hg
     obtain ⟨Ao25, co25, eo25⟩ := Kd.R_slice HO927.out
     (first | subst eo25 | (injection eo25 with f1_ f2_ f3_; have f4_ := f1_.symm; have f5_ := f3_.symm; clear f1_ f2_ f3_; subst f4_; subst f5_))
     refine hK.out _ _ ⟨(blk_cell BK924.out 0).trans rfl, (blk_cell BK924.out 1).trans rfl⟩ (fun hHeld => ?_)
     clear hK K
     refine norm_ (a' := ?_) ?_ ?_
     rotate_left
     ·show Act.put _ (some 7) _ = _
      simp only [Act.put, List.setIfInBounds_toArray, List.set_cons_zero, List.set_cons_succ, i64_w, i32_w]
      rfl
     refine one_ (i := 4) (N := some 47) #[true, true, true, true, true, false, false, false, true, false, false] rfl rfl (one_of HT_.out (by kernel_rfl)) (by decide) (fun K hK => ?_)
     refine goes_ Try.func39 (by kernel_rfl) rfl #[.agg #[.int .i64 t922, .int .u32 t923], .slice Ao25 t925.length co25] (by rfl) rfl rfl (by first | rfl | (simp only [List.map_toArray, List.map_cons, List.map_nil, List.length_drop, List.length_take]; rfl)) ?_
     with_reducible refine (impl_RenameGraph.calls t922 t923 _ _ t925 t928 t929 t930 _ ?side1 ?side2 A8.out).mono ?_
     (case side1 => repeat (first | exact (Kd.R_reads' HO927.out).2.2 | (with_reducible refine Kd.C_alloc ?_ _) | (with_reducible refine Kd.C_drewN ?_ _) | (with_reducible refine Kd.C_drew ?_)))
     (case side2 => exact (Kd.R_reads' HO927.out).2.1)
     rintro e w26 ⟨rfl, hb⟩
     refine ⟨_, rfl, ?_⟩
     have n0_ := Aside0.mk (Kd.R_below (by (with_reducible repeat (first | apply Kd.R_alloc | apply Kd.R_drewN | apply Kd.R_drew)); exact HO927.out) hb)
     have n1_ := Aside0.mk (blk_below BK924.out hb)
     have n2_ := Aside0.mk (blk_below BK931.out hb)
     have n3_ := Aside0.mk (below_step HB.out hb)
     clear HO927 BK924 BK931 HB
     have HO927 := n0_
     have BK924 := n1_
     have BK931 := n2_
     have HB := n3_
     clear n0_ n1_ n2_ n3_
     (try clear hb)
     (try clear hb2)
     (try clear hk)
     (try clear hi)
     refine hK.out _ _ ⟨(blk_cell BK924.out 0).trans rfl, (blk_cell BK924.out 1).trans rfl⟩ (fun hHeld => ?_)
     clear hK K
     refine norm_ (a' := ?_) ?_ ?_
     rotate_left
     ·show Act.put _ (some 47) _ = _
      simp only [Act.put, List.setIfInBounds_toArray, List.set_cons_zero, List.set_cons_succ, i64_w, i32_w]
      rfl
     refine pure_ (i := 5) (N := some 42) (v := ?_) (a' := ?_) #[true, true, true, true, true, true, false, false, true, false, false] rfl rfl (any_of HT_.out (by kernel_rfl)) (fun _ _ _ h => h) (Or.inl ⟨by rfl, ?_⟩) ?_ ?_
     rotate_left
     ·intro w'
      go_simp
      with_reducible rfl
     rotate_left
     ·simp only [Act.put, List.setIfInBounds_toArray, List.set_cons_zero, List.set_cons_succ, i64_w, i32_w]
      rfl
     refine pure_ (i := 6) (N := some 48) (v := ?_) (a' := ?_) #[true, true, true, true, true, true, true, false, true, false, false] rfl rfl (any_of HT_.out (by kernel_rfl)) (fun _ _ _ h => h) (Or.inl ⟨by rfl, ?_⟩) ?_ ?_
     rotate_left
     ·intro w'
      go_simp
      with_reducible rfl
     rotate_left
     ·simp only [Act.put, List.setIfInBounds_toArray, List.set_cons_zero, List.set_cons_succ, i64_w, i32_w]
      rfl
     refine pure_ (i := 7) (N := some 49) (v := ?_) (a' := ?_) #[true, true, true, true, true, true, true, true, true, false, false] rfl rfl (any_of HT_.out (by kernel_rfl)) (fun _ _ _ h => h) (Or.inl ⟨by rfl, ?_⟩) ?_ ?_
     rotate_left
     ·intro w'
      go_simp
      with_reducible rfl
     rotate_left
     ·simp only [Act.put, List.setIfInBounds_toArray, List.set_cons_zero, List.set_cons_succ, i64_w, i32_w]
      rfl
     exact norm_ (by simp only [putAll, Act.put, List.setIfInBounds_toArray, List.set_cons_zero, List.set_cons_succ]) (hCont (.slice Ao25 t925.length co25, gb931) _ ⟨hHeld, (by (with_reducible repeat (first | apply Kd.R_alloc | apply Kd.R_drewN | apply Kd.R_drew)); exact HO927.out), BK924.out, BK931.out, GW931.out, GE931.out, NB924_931.out, NB931_924.out, HB.out⟩)
   ·skip
    refine box_step ?hg (N := 7) ?hd (cs := #[.int .i64 0, .int .u32 0]) (t := 27) ?hr ?_; (case hd => rfl); (case hg => rfl); (case hr => first | (go_simp; done) | (go_simp; rfl))
    intro gb931 hg w23 hbox hb
    have n0_ := Aside0.mk (blk_below BK924.out hb)
    have n1_ := Aside0.mk (below_step HB.out hb)
    have n2_ := Aside0.mk (hbox)
    have n3_ := Aside0.mk ((by rw [hg]; exact (below_size HB.out) : w.heap.size ≤ gb931))
    have n4_ := n3_
    have n5_ := Aside0.mk ((by rw [hg]; exact Nat.ne_of_lt (blk_lt BK924.out) : gb924 ≠ gb931))
    have n6_ := Aside0.mk (Ne.symm n5_.out)
    clear BK924 HB
    have BK924 := n0_
    have HB := n1_
    have BK931 := n2_
    have GW931 := n3_
    have GE931 := n4_
    have NB924_931 := n5_
    have NB931_924 := n6_
    clear n0_ n1_ n2_ n3_ n4_ n5_ n6_
    clear hb hbox hg
    refine hK.out _ _ ⟨(blk_cell BK924.out 0).trans rfl, (blk_cell BK924.out 1).trans rfl⟩ (fun hHeld => ?_)
    clear hK K
    refine norm_ (a' := ?_) ?_ ?_
    rotate_left
    ·show Act.put _ (some 7) _ = _
     simp only [Act.put, List.setIfInBounds_toArray, List.set_cons_zero, List.set_cons_succ, i64_w, i32_w]
     rfl
    refine one_ (i := 3) (N := some 46) #[true, true, true, true, false, false, false, false, true, false, false] rfl rfl (one_of HT_.out (by kernel_rfl)) (by decide) (fun K hK => ?_)
    refine goes_ Try.func37 (by kernel_rfl) rfl #[.slice A1 l1.length c1, .int .i64 t921] (by rfl) rfl rfl (by first | rfl | (simp only [List.map_toArray, List.map_cons, List.map_nil, List.length_drop, List.length_take]; rfl)) ?_
    with_reducible refine (spec_A2Order.calls k _ _ l1 t921 t925 _ ?side1 ?side2 A7.out).mono ?_
    (case side1 => repeat (first | exact (Kd.C_below HR1.out HB.out) | (with_reducible refine Kd.C_alloc ?_ _) | (with_reducible refine Kd.C_drewN ?_ _) | (with_reducible refine Kd.C_drew ?_)))
    (case side2 => exact HC1.out)
    rintro e w24 ⟨v926, rfl, ho0, hb⟩
    refine ⟨_, rfl, ?_⟩
    have n0_ := Aside0.mk (Kd.R_lower ho0 (below_size HB.out))
    have n1_ := Aside0.mk (blk_below BK924.out hb)
    have n2_ := Aside0.mk (blk_below BK931.out hb)
    have n3_ := Aside0.mk (below_step HB.out hb)
    clear BK924 BK931 HB
    have HO927 := n0_
    have BK924 := n1_
    have BK931 := n2_
    have HB := n3_
    clear n0_ n1_ n2_ n3_
    (try clear hb)
    (try clear hb2)
    (try clear hk)
    (try clear hi)
    (try clear ho0)
    obtain ⟨Ao25, co25, eo25⟩ := Kd.R_slice HO927.out
    (first | subst eo25 | (injection eo25 with f1_ f2_ f3_; have f4_ := f1_.symm; have f5_ := f3_.symm; clear f1_ f2_ f3_; subst f4_; subst f5_))
    refine hK.out _ _ ⟨(blk_cell BK924.out 0).trans rfl, (blk_cell BK924.out 1).trans rfl⟩ (fun hHeld => ?_)
    clear hK K
    refine norm_ (a' := ?_) ?_ ?_
    rotate_left
    ·show Act.put _ (some 46) _ = _
     simp only [Act.put, List.setIfInBounds_toArray, List.set_cons_zero, List.set_cons_succ, i64_w, i32_w]
     rfl
    refine one_ (i := 4) (N := some 47) #[true, true, true, true, true, false, false, false, true, false, false] rfl rfl (one_of HT_.out (by kernel_rfl)) (by decide) (fun K hK => ?_)
    refine goes_ Try.func39 (by kernel_rfl) rfl #[.agg #[.int .i64 t922, .int .u32 t923], .slice Ao25 t925.length co25] (by rfl) rfl rfl (by first | rfl | (simp only [List.map_toArray, List.map_cons, List.map_nil, List.length_drop, List.length_take]; rfl)) ?_
    with_reducible refine (impl_RenameGraph.calls t922 t923 _ _ t925 t928 t929 t930 _ ?side1 ?side2 A8.out).mono ?_
    (case side1 => repeat (first | exact (Kd.R_reads' HO927.out).2.2 | (with_reducible refine Kd.C_alloc ?_ _) | (with_reducible refine Kd.C_drewN ?_ _) | (with_reducible refine Kd.C_drew ?_)))
    (case side2 => exact (Kd.R_reads' HO927.out).2.1)
    rintro e w26 ⟨rfl, hb⟩
    refine ⟨_, rfl, ?_⟩
    have n0_ := Aside0.mk (Kd.R_below (by (with_reducible repeat (first | apply Kd.R_alloc | apply Kd.R_drewN | apply Kd.R_drew)); exact HO927.out) hb)
    have n1_ := Aside0.mk (blk_below BK924.out hb)
    have n2_ := Aside0.mk (blk_below BK931.out hb)
    have n3_ := Aside0.mk (below_step HB.out hb)
    clear HO927 BK924 BK931 HB
    have HO927 := n0_
    have BK924 := n1_
    have BK931 := n2_
    have HB := n3_
    clear n0_ n1_ n2_ n3_
    (try clear hb)
    (try clear hb2)
    (try clear hk)
    (try clear hi)
    refine hK.out _ _ ⟨(blk_cell BK924.out 0).trans rfl, (blk_cell BK924.out 1).trans rfl⟩ (fun hHeld => ?_)
    clear hK K
    refine norm_ (a' := ?_) ?_ ?_
    rotate_left
    ·show Act.put _ (some 47) _ = _
     simp only [Act.put, List.setIfInBounds_toArray, List.set_cons_zero, List.set_cons_succ, i64_w, i32_w]
     rfl
    refine pure_ (i := 5) (N := some 42) (v := ?_) (a' := ?_) #[true, true, true, true, true, true, false, false, true, false, false] rfl rfl (any_of HT_.out (by kernel_rfl)) (fun _ _ _ h => h) (Or.inl ⟨by rfl, ?_⟩) ?_ ?_
    rotate_left
    ·intro w'
     go_simp
     with_reducible rfl
    rotate_left
    ·simp only [Act.put, List.setIfInBounds_toArray, List.set_cons_zero, List.set_cons_succ, i64_w, i32_w]
     rfl
    refine pure_ (i := 6) (N := some 48) (v := ?_) (a' := ?_) #[true, true, true, true, true, true, true, false, true, false, false] rfl rfl (any_of HT_.out (by kernel_rfl)) (fun _ _ _ h => h) (Or.inl ⟨by rfl, ?_⟩) ?_ ?_
    rotate_left
    ·intro w'
     go_simp
     with_reducible rfl
    rotate_left
    ·simp only [Act.put, List.setIfInBounds_toArray, List.set_cons_zero, List.set_cons_succ, i64_w, i32_w]
     rfl
    refine pure_ (i := 7) (N := some 49) (v := ?_) (a' := ?_) #[true, true, true, true, true, true, true, true, true, false, false] rfl rfl (any_of HT_.out (by kernel_rfl)) (fun _ _ _ h => h) (Or.inl ⟨by rfl, ?_⟩) ?_ ?_
    rotate_left
    ·intro w'
     go_simp
     with_reducible rfl
    rotate_left
    ·simp only [Act.put, List.setIfInBounds_toArray, List.set_cons_zero, List.set_cons_succ, i64_w, i32_w]
     rfl
    exact norm_ (by simp only [putAll, Act.put, List.setIfInBounds_toArray, List.set_cons_zero, List.set_cons_succ]) (hCont (.slice Ao25 t925.length co25, gb931) _ ⟨hHeld, (by (with_reducible repeat (first | apply Kd.R_alloc | apply Kd.R_drewN | apply Kd.R_drew)); exact HO927.out), BK924.out, BK931.out, GW931.out, GE931.out, NB924_931.out, NB931_924.out, HB.out⟩)
  rintro ⟨v926, gb931⟩ w27 ⟨hS_, h0_, h1_, h2_, h3_, h4_, h5_, h6_, h7_⟩
  have n0_ : Aside0 (Kd.R (Kd.int .i64) 2 w27 w.heap.size (fun _ => True) v926 t925) := ⟨h0_⟩
  have n1_ : Aside0 (w27.heap[gb924]? = some (.cells #[.int .i64 t922, .int .u32 t923] 27 (0, 0))) := ⟨h1_⟩
  have n2_ : Aside0 (w27.heap[gb931]? = some (.cells #[.int .i64 0, .int .u32 0] 27 (0, 0))) := ⟨h2_⟩
  have n3_ : Aside0 (w.heap.size ≤ gb931) := ⟨h3_⟩
  have n4_ : Aside0 (w.heap.size ≤ gb931) := ⟨h4_⟩
  have n5_ : Aside0 (gb924 ≠ gb931) := ⟨h5_⟩
  have n6_ : Aside0 (gb931 ≠ gb924) := ⟨h6_⟩
  have n7_ : Aside0 (Below w.heap.size w w27) := ⟨h7_⟩
  clear BK924 HB
  clear h0_ h1_ h2_ h3_ h4_ h5_ h6_ h7_
  have HO927 := n0_
  have BK924 := n1_
  have BK931 := n2_
  have GW931 := n3_
  have GE931 := n4_
  have NB924_931 := n5_
  have NB931_924 := n6_
  have HB := n7_
  clear n0_ n1_ n2_ n3_ n4_ n5_ n6_ n7_
  have hHeld : w27.cell? ⟨gb924, 0, none⟩ = some (.int .i64 t922) ∧ w27.cell? ⟨gb924, 1, none⟩ = some (.int .u32 t923) := hS_
  refine norm_ (a' := ?_) ?_ ?_
  rotate_left
  ·simp only [putAll, Act.put, List.setIfInBounds_toArray, List.set_cons_zero, List.set_cons_succ]
   rfl
  refine one_ (i := 9) (N := none) #[true, true, true, true, true, true, true, true, true, true, false] rfl rfl (one_of HT_.out (by kernel_rfl)) (by decide) (fun K hK => ?_)
  have hs28 : w27.cell? ⟨gb931, 0, none⟩ = some (.int .i64 0) := (blk_cell BK931.out 0).trans rfl
  have hfs28 := blk_frozen BK931.out 0
  have hns28_0 := NB924_931.out
  have hms28_0 := NB931_924.out
  have hs29 : w27.cell? ⟨gb931, 1, none⟩ = some (.int .u32 0) := (blk_cell BK931.out 1).trans rfl
  have hfs29 := blk_frozen BK931.out 1
  have hns29_0 := NB924_931.out
  have hms29_0 := NB931_924.out
  refine skip_ (w1 := ?_) (by rfl) rfl ?_ ?_
  rotate_left
  ·go_simp
   rfl
  refine hK.out _ _ ⟨((cell_far (p := ⟨gb931, _, none⟩) NB924_931.out _).trans (((cell_far (p := ⟨gb931, _, none⟩) NB924_931.out _).trans (hHeld.1)))), ((cell_far (p := ⟨gb931, _, none⟩) NB924_931.out _).trans (((cell_far (p := ⟨gb931, _, none⟩) NB924_931.out _).trans (hHeld.2))))⟩ (fun hHeld => ?_)
  clear hK K
  refine pure_ (i := 10) (N := some 8) (v := ?_) (a' := ?_) #[true, true, true, true, true, true, true, true, true, true, true] rfl rfl (any_of HT_.out (by kernel_rfl)) (fun _ _ _ h => h) (Or.inl ⟨by rfl, ?_⟩) ?_ ?_
  rotate_left
  ·intro w'
   go_simp
   with_reducible rfl
  rotate_left
  ·simp only [Act.put, List.setIfInBounds_toArray, List.set_cons_zero, List.set_cons_succ, i64_w, i32_w]
   rfl
  refine done_ (done_of HT_.out (by kernel_rfl)) ?_
  go_upto_region 14 with (first | ((with_reducible refine gate_callee (f := 33) rfl ?_); refine goesL_ (some 52) rfl rfl Try.func33 (by kernel_rfl) rfl #[.slice A1 l1.length c1, .int .i64 t921] rfl (by (try simp only [List.map_toArray, List.map_cons, List.map_nil]); first | done | rfl | (simp only [List.length_drop, List.length_take]; rfl)) ?_; (with_reducible refine (spec_A2Graph.calls _ _ l1 t921 t932 t933 _ ?side1 ?side2 A9.out).mono ?_); (case side1 => exact Kd.C_below HR1.out (by repeat (first | (with_reducible first | exact HB.out | apply below_alloc | apply pw_below_drewN | apply below_drew1 | refine below_set ?_ GE924.out | refine below_set ?_ GE931.out) | exact HB.out))); (case side2 => exact HC1.out); rintro e w30 ⟨rfl, hb⟩; refine ⟨_, rfl, ?_⟩; have n0_ := Aside0.mk (Kd.R_below (by (with_reducible repeat (first | apply Kd.R_alloc | apply Kd.R_drewN | apply Kd.R_drew)); exact (Kd.R_mono (Kd.R_far (p := ⟨gb931, 1, none⟩) (Kd.R_far (p := ⟨gb931, 0, none⟩) (Kd.R_types HO927.out BK931.out (by decide)) (fun _ hk => hk.2) (.int .i64 t928)) (fun _ hk => hk.2) (.int .u32 t929)) (fun _ h_ => h_.1))) hb); have n1_ := Aside0.mk (blk_below (g := gb924) (o := .cells #[.int .i64 t922, .int .u32 t923] 27 (0, 0)) (by (with_reducible repeat (first | refine blk_drewN ?_ _ | refine blk_drew ?_ | refine blk_alloc ?_ _)); refine blk_far ?_ NB924_931.out _; (with_reducible repeat (first | refine blk_drewN ?_ _ | refine blk_drew ?_ | refine blk_alloc ?_ _)); refine blk_far ?_ NB924_931.out _; (with_reducible repeat (first | refine blk_drewN ?_ _ | refine blk_drew ?_ | refine blk_alloc ?_ _)); exact BK924.out) hb); have n2_ := Aside0.mk (blk_below (g := gb931) (o := .cells #[.int .i64 t928, .int .u32 t929] 27 (0, 0)) (by (with_reducible repeat (first | refine blk_drewN ?_ _ | refine blk_drew ?_ | refine blk_alloc ?_ _)); refine blk_put (cs := #[.int .i64 t928, .int .u32 0]) ?_ 1 _ rfl; (with_reducible repeat (first | refine blk_drewN ?_ _ | refine blk_drew ?_ | refine blk_alloc ?_ _)); refine blk_put (cs := #[.int .i64 0, .int .u32 0]) ?_ 0 _ rfl; (with_reducible repeat (first | refine blk_drewN ?_ _ | refine blk_drew ?_ | refine blk_alloc ?_ _)); exact BK931.out) hb); have n3_ := Aside0.mk (below_step (by repeat (first | (with_reducible first | exact HB.out | apply below_alloc | apply pw_below_drewN | apply below_drew1 | refine below_set ?_ GE924.out | refine below_set ?_ GE931.out) | exact HB.out)) hb); clear HO927; clear BK924; clear BK931; clear HB; have HO927 := n0_; have BK924 := n1_; have BK931 := n2_; have HB := n3_; clear n0_ n1_ n2_ n3_; (try clear hb); (try clear hb2); (try clear hk); (try clear hi)) | ((with_reducible refine gate_dst (N := 9) rfl ?_); refine box_event ?hg (N := 9) ?hd (cs := #[.int .i64 0, .int .u32 0]) (t := 27) ?hr ?_; (case hd => rfl); (case hg => rfl); (case hr => first | (go_simp; done) | (go_simp; rfl)); intro gb934 hg w31 hbox hb; have n0_ := Aside0.mk (Kd.R_below (by (with_reducible repeat (first | apply Kd.R_alloc | apply Kd.R_drewN | apply Kd.R_drew)); exact HO927.out) hb); have n1_ := Aside0.mk (blk_below (g := gb924) (o := .cells #[.int .i64 t922, .int .u32 t923] 27 (0, 0)) (by (with_reducible repeat (first | refine blk_drewN ?_ _ | refine blk_drew ?_ | refine blk_alloc ?_ _)); exact BK924.out) hb); have n2_ := Aside0.mk (blk_below (g := gb931) (o := .cells #[.int .i64 t928, .int .u32 t929] 27 (0, 0)) (by (with_reducible repeat (first | refine blk_drewN ?_ _ | refine blk_drew ?_ | refine blk_alloc ?_ _)); exact BK931.out) hb); have n3_ := Aside0.mk (below_step (by repeat (first | (with_reducible first | exact HB.out | apply below_alloc | apply pw_below_drewN | apply below_drew1 | refine below_set ?_ GE924.out | refine below_set ?_ GE931.out) | exact HB.out)) hb); have n4_ := Aside0.mk (hbox); have n5_ := Aside0.mk ((by rw [hg]; exact (below_size (by repeat (first | (with_reducible first | exact HB.out | apply below_alloc | apply pw_below_drewN | apply below_drew1 | refine below_set ?_ GE924.out | refine below_set ?_ GE931.out) | exact HB.out))) : w.heap.size ≤ gb934)); have n6_ := n5_; have n7_ := Aside0.mk ((by rw [hg]; exact Nat.ne_of_lt (blk_lt (g := gb924) (o := .cells #[.int .i64 t922, .int .u32 t923] 27 (0, 0)) (by (with_reducible repeat (first | refine blk_drewN ?_ _ | refine blk_drew ?_ | refine blk_alloc ?_ _)); exact BK924.out)) : gb924 ≠ gb934)); have n8_ := Aside0.mk (Ne.symm n7_.out); have n9_ := Aside0.mk ((by rw [hg]; exact Nat.ne_of_lt (blk_lt (g := gb931) (o := .cells #[.int .i64 t928, .int .u32 t929] 27 (0, 0)) (by (with_reducible repeat (first | refine blk_drewN ?_ _ | refine blk_drew ?_ | refine blk_alloc ?_ _)); exact BK931.out)) : gb931 ≠ gb934)); have n10_ := Aside0.mk (Ne.symm n9_.out); clear HO927; clear BK924; clear BK931; clear HB; have HO927 := n0_; have BK924 := n1_; have BK931 := n2_; have HB := n3_; have BK934 := n4_; have GW934 := n5_; have GE934 := n6_; have NB924_934 := n7_; have NB934_924 := n8_; have NB931_934 := n9_; have NB934_931 := n10_; clear n0_ n1_ n2_ n3_ n4_ n5_ n6_ n7_ n8_ n9_ n10_; clear hb hbox hg; have hnb32 := NB934_924.out; have hnc32 := NB924_934.out; have hnb33 := NB934_931.out; have hnc33 := NB931_934.out; have hcz34_0 : w31.cell? ⟨gb934, 0, none⟩ = some (.int .i64 0) := (blk_cell BK934.out 0).trans rfl; have hcz34_1 : w31.cell? ⟨gb934, 1, none⟩ = some (.int .u32 0) := (blk_cell BK934.out 1).trans rfl; have hfz34_0 := blk_frozen BK934.out 0; have hfz34_1 := blk_frozen BK934.out 1; have hnb35 := NB924_931.out; have hnc35 := NB931_924.out; have hcz36_0 : w31.cell? ⟨gb924, 0, none⟩ = some (.int .i64 t922) := (blk_cell BK924.out 0).trans rfl; have hcz36_1 : w31.cell? ⟨gb924, 1, none⟩ = some (.int .u32 t923) := (blk_cell BK924.out 1).trans rfl; have hfz36_0 := blk_frozen BK924.out 0; have hfz36_1 := blk_frozen BK924.out 1) | ((with_reducible refine gate_callee (f := 40) rfl ?_); refine goesL_ (some 55) rfl rfl Try.func40 (by kernel_rfl) rfl #[.agg #[.int .i64 t922, .int .u32 t923]] rfl (by (try simp only [List.map_toArray, List.map_cons, List.map_nil]); first | done | rfl | (simp only [List.length_drop, List.length_take]; rfl)) ?_; (with_reducible refine (impl_LeastGraph.calls t922 t923 t935 t936 t937 _ A10.out).mono ?_); rintro e w37 ⟨rfl, hb⟩; refine ⟨_, rfl, ?_⟩; have n0_ := Aside0.mk (Kd.R_below (by (with_reducible repeat (first | apply Kd.R_alloc | apply Kd.R_drewN | apply Kd.R_drew)); exact (Kd.R_mono (Kd.R_far (p := ⟨gb934, 1, none⟩) (Kd.R_far (p := ⟨gb934, 0, none⟩) (Kd.R_types HO927.out BK934.out (by decide)) (fun _ hk => hk.2) (.int .i64 t932)) (fun _ hk => hk.2) (.int .u32 t933)) (fun _ h_ => h_.1))) hb); have n1_ := Aside0.mk (blk_below (g := gb924) (o := .cells #[.int .i64 t922, .int .u32 t923] 27 (0, 0)) (by (with_reducible repeat (first | refine blk_drewN ?_ _ | refine blk_drew ?_ | refine blk_alloc ?_ _)); refine blk_far ?_ NB924_934.out _; (with_reducible repeat (first | refine blk_drewN ?_ _ | refine blk_drew ?_ | refine blk_alloc ?_ _)); refine blk_far ?_ NB924_934.out _; (with_reducible repeat (first | refine blk_drewN ?_ _ | refine blk_drew ?_ | refine blk_alloc ?_ _)); exact BK924.out) hb); have n2_ := Aside0.mk (blk_below (g := gb931) (o := .cells #[.int .i64 t928, .int .u32 t929] 27 (0, 0)) (by (with_reducible repeat (first | refine blk_drewN ?_ _ | refine blk_drew ?_ | refine blk_alloc ?_ _)); refine blk_far ?_ NB931_934.out _; (with_reducible repeat (first | refine blk_drewN ?_ _ | refine blk_drew ?_ | refine blk_alloc ?_ _)); refine blk_far ?_ NB931_934.out _; (with_reducible repeat (first | refine blk_drewN ?_ _ | refine blk_drew ?_ | refine blk_alloc ?_ _)); exact BK931.out) hb); have n3_ := Aside0.mk (blk_below (g := gb934) (o := .cells #[.int .i64 t932, .int .u32 t933] 27 (0, 0)) (by (with_reducible repeat (first | refine blk_drewN ?_ _ | refine blk_drew ?_ | refine blk_alloc ?_ _)); refine blk_put (cs := #[.int .i64 t932, .int .u32 0]) ?_ 1 _ rfl; (with_reducible repeat (first | refine blk_drewN ?_ _ | refine blk_drew ?_ | refine blk_alloc ?_ _)); refine blk_put (cs := #[.int .i64 0, .int .u32 0]) ?_ 0 _ rfl; (with_reducible repeat (first | refine blk_drewN ?_ _ | refine blk_drew ?_ | refine blk_alloc ?_ _)); exact BK934.out) hb); have n4_ := Aside0.mk (below_step (by repeat (first | (with_reducible first | exact HB.out | apply below_alloc | apply pw_below_drewN | apply below_drew1 | refine below_set ?_ GE924.out | refine below_set ?_ GE931.out | refine below_set ?_ GE934.out) | exact HB.out)) hb); clear HO927; clear BK924; clear BK931; clear BK934; clear HB; have HO927 := n0_; have BK924 := n1_; have BK931 := n2_; have BK934 := n3_; have HB := n4_; clear n0_ n1_ n2_ n3_ n4_; (try clear hb); (try clear hb2); (try clear hk); (try clear hi)) | ((with_reducible refine gate_dst (N := 10) rfl ?_); refine box_event ?hg (N := 10) ?hd (cs := #[.int .i64 0, .int .u32 0]) (t := 27) ?hr ?_; (case hd => rfl); (case hg => rfl); (case hr => first | (go_simp; done) | (go_simp; rfl)); intro gb938 hg w38 hbox hb; have n0_ := Aside0.mk (Kd.R_below (by (with_reducible repeat (first | apply Kd.R_alloc | apply Kd.R_drewN | apply Kd.R_drew)); exact HO927.out) hb); have n1_ := Aside0.mk (blk_below (g := gb924) (o := .cells #[.int .i64 t922, .int .u32 t923] 27 (0, 0)) (by (with_reducible repeat (first | refine blk_drewN ?_ _ | refine blk_drew ?_ | refine blk_alloc ?_ _)); exact BK924.out) hb); have n2_ := Aside0.mk (blk_below (g := gb931) (o := .cells #[.int .i64 t928, .int .u32 t929] 27 (0, 0)) (by (with_reducible repeat (first | refine blk_drewN ?_ _ | refine blk_drew ?_ | refine blk_alloc ?_ _)); exact BK931.out) hb); have n3_ := Aside0.mk (blk_below (g := gb934) (o := .cells #[.int .i64 t932, .int .u32 t933] 27 (0, 0)) (by (with_reducible repeat (first | refine blk_drewN ?_ _ | refine blk_drew ?_ | refine blk_alloc ?_ _)); exact BK934.out) hb); have n4_ := Aside0.mk (below_step (by repeat (first | (with_reducible first | exact HB.out | apply below_alloc | apply pw_below_drewN | apply below_drew1 | refine below_set ?_ GE924.out | refine below_set ?_ GE931.out | refine below_set ?_ GE934.out) | exact HB.out)) hb); have n5_ := Aside0.mk (hbox); have n6_ := Aside0.mk ((by rw [hg]; exact (below_size (by repeat (first | (with_reducible first | exact HB.out | apply below_alloc | apply pw_below_drewN | apply below_drew1 | refine below_set ?_ GE924.out | refine below_set ?_ GE931.out | refine below_set ?_ GE934.out) | exact HB.out))) : w.heap.size ≤ gb938)); have n7_ := n6_; have n8_ := Aside0.mk ((by rw [hg]; exact Nat.ne_of_lt (blk_lt (g := gb924) (o := .cells #[.int .i64 t922, .int .u32 t923] 27 (0, 0)) (by (with_reducible repeat (first | refine blk_drewN ?_ _ | refine blk_drew ?_ | refine blk_alloc ?_ _)); exact BK924.out)) : gb924 ≠ gb938)); have n9_ := Aside0.mk (Ne.symm n8_.out); have n10_ := Aside0.mk ((by rw [hg]; exact Nat.ne_of_lt (blk_lt (g := gb931) (o := .cells #[.int .i64 t928, .int .u32 t929] 27 (0, 0)) (by (with_reducible repeat (first | refine blk_drewN ?_ _ | refine blk_drew ?_ | refine blk_alloc ?_ _)); exact BK931.out)) : gb931 ≠ gb938)); have n11_ := Aside0.mk (Ne.symm n10_.out); have n12_ := Aside0.mk ((by rw [hg]; exact Nat.ne_of_lt (blk_lt (g := gb934) (o := .cells #[.int .i64 t932, .int .u32 t933] 27 (0, 0)) (by (with_reducible repeat (first | refine blk_drewN ?_ _ | refine blk_drew ?_ | refine blk_alloc ?_ _)); exact BK934.out)) : gb934 ≠ gb938)); have n13_ := Aside0.mk (Ne.symm n12_.out); clear HO927; clear BK924; clear BK931; clear BK934; clear HB; have HO927 := n0_; have BK924 := n1_; have BK931 := n2_; have BK934 := n3_; have HB := n4_; have BK938 := n5_; have GW938 := n6_; have GE938 := n7_; have NB924_938 := n8_; have NB938_924 := n9_; have NB931_938 := n10_; have NB938_931 := n11_; have NB934_938 := n12_; have NB938_934 := n13_; clear n0_ n1_ n2_ n3_ n4_ n5_ n6_ n7_ n8_ n9_ n10_ n11_ n12_ n13_; clear hb hbox hg; have hnb39 := NB938_924.out; have hnc39 := NB924_938.out; have hnb40 := NB938_931.out; have hnc40 := NB931_938.out; have hnb41 := NB938_934.out; have hnc41 := NB934_938.out; have hcz42_0 : w38.cell? ⟨gb938, 0, none⟩ = some (.int .i64 0) := (blk_cell BK938.out 0).trans rfl; have hcz42_1 : w38.cell? ⟨gb938, 1, none⟩ = some (.int .u32 0) := (blk_cell BK938.out 1).trans rfl; have hfz42_0 := blk_frozen BK938.out 0; have hfz42_1 := blk_frozen BK938.out 1; have hcz43_0 : w38.cell? ⟨gb931, 0, none⟩ = some (.int .i64 t928) := (blk_cell BK931.out 0).trans rfl; have hcz43_1 : w38.cell? ⟨gb931, 1, none⟩ = some (.int .u32 t929) := (blk_cell BK931.out 1).trans rfl; have hfz43_0 := blk_frozen BK931.out 0; have hfz43_1 := blk_frozen BK931.out 1) | ((with_reducible refine gate_callee (f := 40) rfl ?_); refine goesL_ (some 60) rfl rfl Try.func40 (by kernel_rfl) rfl #[.agg #[.int .i64 t928, .int .u32 t929]] rfl (by (try simp only [List.map_toArray, List.map_cons, List.map_nil]); first | done | rfl | (simp only [List.length_drop, List.length_take]; rfl)) ?_; (with_reducible refine (impl_LeastGraph.calls t928 t929 t939 t940 t941 _ A11.out).mono ?_); rintro e w44 ⟨rfl, hb⟩; refine ⟨_, rfl, ?_⟩; have n0_ := Aside0.mk (Kd.R_below (by (with_reducible repeat (first | apply Kd.R_alloc | apply Kd.R_drewN | apply Kd.R_drew)); exact (Kd.R_mono (Kd.R_far (p := ⟨gb938, 1, none⟩) (Kd.R_far (p := ⟨gb938, 0, none⟩) (Kd.R_types HO927.out BK938.out (by decide)) (fun _ hk => hk.2) (.int .i64 t935)) (fun _ hk => hk.2) (.int .u32 t936)) (fun _ h_ => h_.1))) hb); have n1_ := Aside0.mk (blk_below (g := gb924) (o := .cells #[.int .i64 t922, .int .u32 t923] 27 (0, 0)) (by (with_reducible repeat (first | refine blk_drewN ?_ _ | refine blk_drew ?_ | refine blk_alloc ?_ _)); refine blk_far ?_ NB924_938.out _; (with_reducible repeat (first | refine blk_drewN ?_ _ | refine blk_drew ?_ | refine blk_alloc ?_ _)); refine blk_far ?_ NB924_938.out _; (with_reducible repeat (first | refine blk_drewN ?_ _ | refine blk_drew ?_ | refine blk_alloc ?_ _)); exact BK924.out) hb); have n2_ := Aside0.mk (blk_below (g := gb931) (o := .cells #[.int .i64 t928, .int .u32 t929] 27 (0, 0)) (by (with_reducible repeat (first | refine blk_drewN ?_ _ | refine blk_drew ?_ | refine blk_alloc ?_ _)); refine blk_far ?_ NB931_938.out _; (with_reducible repeat (first | refine blk_drewN ?_ _ | refine blk_drew ?_ | refine blk_alloc ?_ _)); refine blk_far ?_ NB931_938.out _; (with_reducible repeat (first | refine blk_drewN ?_ _ | refine blk_drew ?_ | refine blk_alloc ?_ _)); exact BK931.out) hb); have n3_ := Aside0.mk (blk_below (g := gb934) (o := .cells #[.int .i64 t932, .int .u32 t933] 27 (0, 0)) (by (with_reducible repeat (first | refine blk_drewN ?_ _ | refine blk_drew ?_ | refine blk_alloc ?_ _)); refine blk_far ?_ NB934_938.out _; (with_reducible repeat (first | refine blk_drewN ?_ _ | refine blk_drew ?_ | refine blk_alloc ?_ _)); refine blk_far ?_ NB934_938.out _; (with_reducible repeat (first | refine blk_drewN ?_ _ | refine blk_drew ?_ | refine blk_alloc ?_ _)); exact BK934.out) hb); have n4_ := Aside0.mk (blk_below (g := gb938) (o := .cells #[.int .i64 t935, .int .u32 t936] 27 (0, 0)) (by (with_reducible repeat (first | refine blk_drewN ?_ _ | refine blk_drew ?_ | refine blk_alloc ?_ _)); refine blk_put (cs := #[.int .i64 t935, .int .u32 0]) ?_ 1 _ rfl; (with_reducible repeat (first | refine blk_drewN ?_ _ | refine blk_drew ?_ | refine blk_alloc ?_ _)); refine blk_put (cs := #[.int .i64 0, .int .u32 0]) ?_ 0 _ rfl; (with_reducible repeat (first | refine blk_drewN ?_ _ | refine blk_drew ?_ | refine blk_alloc ?_ _)); exact BK938.out) hb); have n5_ := Aside0.mk (below_step (by repeat (first | (with_reducible first | exact HB.out | apply below_alloc | apply pw_below_drewN | apply below_drew1 | refine below_set ?_ GE924.out | refine below_set ?_ GE931.out | refine below_set ?_ GE934.out | refine below_set ?_ GE938.out) | exact HB.out)) hb); clear HO927; clear BK924; clear BK931; clear BK934; clear BK938; clear HB; have HO927 := n0_; have BK924 := n1_; have BK931 := n2_; have BK934 := n3_; have BK938 := n4_; have HB := n5_; clear n0_ n1_ n2_ n3_ n4_ n5_; (try clear hb); (try clear hb2); (try clear hk); (try clear hi)) | ((with_reducible refine gate_dst (N := 12) rfl ?_); refine box_event ?hg (N := 12) ?hd (cs := #[.int .i64 0, .int .u32 0]) (t := 27) ?hr ?_; (case hd => rfl); (case hg => rfl); (case hr => first | (go_simp; done) | (go_simp; rfl)); intro gb942 hg w45 hbox hb; have n0_ := Aside0.mk (Kd.R_below (by (with_reducible repeat (first | apply Kd.R_alloc | apply Kd.R_drewN | apply Kd.R_drew)); exact HO927.out) hb); have n1_ := Aside0.mk (blk_below (g := gb924) (o := .cells #[.int .i64 t922, .int .u32 t923] 27 (0, 0)) (by (with_reducible repeat (first | refine blk_drewN ?_ _ | refine blk_drew ?_ | refine blk_alloc ?_ _)); exact BK924.out) hb); have n2_ := Aside0.mk (blk_below (g := gb931) (o := .cells #[.int .i64 t928, .int .u32 t929] 27 (0, 0)) (by (with_reducible repeat (first | refine blk_drewN ?_ _ | refine blk_drew ?_ | refine blk_alloc ?_ _)); exact BK931.out) hb); have n3_ := Aside0.mk (blk_below (g := gb934) (o := .cells #[.int .i64 t932, .int .u32 t933] 27 (0, 0)) (by (with_reducible repeat (first | refine blk_drewN ?_ _ | refine blk_drew ?_ | refine blk_alloc ?_ _)); exact BK934.out) hb); have n4_ := Aside0.mk (blk_below (g := gb938) (o := .cells #[.int .i64 t935, .int .u32 t936] 27 (0, 0)) (by (with_reducible repeat (first | refine blk_drewN ?_ _ | refine blk_drew ?_ | refine blk_alloc ?_ _)); exact BK938.out) hb); have n5_ := Aside0.mk (below_step (by repeat (first | (with_reducible first | exact HB.out | apply below_alloc | apply pw_below_drewN | apply below_drew1 | refine below_set ?_ GE924.out | refine below_set ?_ GE931.out | refine below_set ?_ GE934.out | refine below_set ?_ GE938.out) | exact HB.out)) hb); have n6_ := Aside0.mk (hbox); have n7_ := Aside0.mk ((by rw [hg]; exact (below_size (by repeat (first | (with_reducible first | exact HB.out | apply below_alloc | apply pw_below_drewN | apply below_drew1 | refine below_set ?_ GE924.out | refine below_set ?_ GE931.out | refine below_set ?_ GE934.out | refine below_set ?_ GE938.out) | exact HB.out))) : w.heap.size ≤ gb942)); have n8_ := n7_; have n9_ := Aside0.mk ((by rw [hg]; exact Nat.ne_of_lt (blk_lt (g := gb924) (o := .cells #[.int .i64 t922, .int .u32 t923] 27 (0, 0)) (by (with_reducible repeat (first | refine blk_drewN ?_ _ | refine blk_drew ?_ | refine blk_alloc ?_ _)); exact BK924.out)) : gb924 ≠ gb942)); have n10_ := Aside0.mk (Ne.symm n9_.out); have n11_ := Aside0.mk ((by rw [hg]; exact Nat.ne_of_lt (blk_lt (g := gb931) (o := .cells #[.int .i64 t928, .int .u32 t929] 27 (0, 0)) (by (with_reducible repeat (first | refine blk_drewN ?_ _ | refine blk_drew ?_ | refine blk_alloc ?_ _)); exact BK931.out)) : gb931 ≠ gb942)); have n12_ := Aside0.mk (Ne.symm n11_.out); have n13_ := Aside0.mk ((by rw [hg]; exact Nat.ne_of_lt (blk_lt (g := gb934) (o := .cells #[.int .i64 t932, .int .u32 t933] 27 (0, 0)) (by (with_reducible repeat (first | refine blk_drewN ?_ _ | refine blk_drew ?_ | refine blk_alloc ?_ _)); exact BK934.out)) : gb934 ≠ gb942)); have n14_ := Aside0.mk (Ne.symm n13_.out); have n15_ := Aside0.mk ((by rw [hg]; exact Nat.ne_of_lt (blk_lt (g := gb938) (o := .cells #[.int .i64 t935, .int .u32 t936] 27 (0, 0)) (by (with_reducible repeat (first | refine blk_drewN ?_ _ | refine blk_drew ?_ | refine blk_alloc ?_ _)); exact BK938.out)) : gb938 ≠ gb942)); have n16_ := Aside0.mk (Ne.symm n15_.out); clear HO927; clear BK924; clear BK931; clear BK934; clear BK938; clear HB; have HO927 := n0_; have BK924 := n1_; have BK931 := n2_; have BK934 := n3_; have BK938 := n4_; have HB := n5_; have BK942 := n6_; have GW942 := n7_; have GE942 := n8_; have NB924_942 := n9_; have NB942_924 := n10_; have NB931_942 := n11_; have NB942_931 := n12_; have NB934_942 := n13_; have NB942_934 := n14_; have NB938_942 := n15_; have NB942_938 := n16_; clear n0_ n1_ n2_ n3_ n4_ n5_ n6_ n7_ n8_ n9_ n10_ n11_ n12_ n13_ n14_ n15_ n16_; clear hb hbox hg; have hnb46 := NB942_924.out; have hnc46 := NB924_942.out; have hnb47 := NB942_931.out; have hnc47 := NB931_942.out; have hnb48 := NB942_934.out; have hnc48 := NB934_942.out; have hnb49 := NB942_938.out; have hnc49 := NB938_942.out; have hcz50_0 : w45.cell? ⟨gb942, 0, none⟩ = some (.int .i64 0) := (blk_cell BK942.out 0).trans rfl; have hcz50_1 : w45.cell? ⟨gb942, 1, none⟩ = some (.int .u32 0) := (blk_cell BK942.out 1).trans rfl; have hfz50_0 := blk_frozen BK942.out 0; have hfz50_1 := blk_frozen BK942.out 1; have hcz51_0 : w45.cell? ⟨gb934, 0, none⟩ = some (.int .i64 t932) := (blk_cell BK934.out 0).trans rfl; have hcz51_1 : w45.cell? ⟨gb934, 1, none⟩ = some (.int .u32 t933) := (blk_cell BK934.out 1).trans rfl; have hfz51_0 := blk_frozen BK934.out 0; have hfz51_1 := blk_frozen BK934.out 1) | ((with_reducible refine gate_callee (f := 40) rfl ?_); refine goesL_ (some 65) rfl rfl Try.func40 (by kernel_rfl) rfl #[.agg #[.int .i64 t932, .int .u32 t933]] rfl (by (try simp only [List.map_toArray, List.map_cons, List.map_nil]); first | done | rfl | (simp only [List.length_drop, List.length_take]; rfl)) ?_; (with_reducible refine (impl_LeastGraph.calls t932 t933 t943 t944 t945 _ A12.out).mono ?_); rintro e w52 ⟨rfl, hb⟩; refine ⟨_, rfl, ?_⟩; have n0_ := Aside0.mk (Kd.R_below (by (with_reducible repeat (first | apply Kd.R_alloc | apply Kd.R_drewN | apply Kd.R_drew)); exact (Kd.R_mono (Kd.R_far (p := ⟨gb942, 1, none⟩) (Kd.R_far (p := ⟨gb942, 0, none⟩) (Kd.R_types HO927.out BK942.out (by decide)) (fun _ hk => hk.2) (.int .i64 t939)) (fun _ hk => hk.2) (.int .u32 t940)) (fun _ h_ => h_.1))) hb); have n1_ := Aside0.mk (blk_below (g := gb924) (o := .cells #[.int .i64 t922, .int .u32 t923] 27 (0, 0)) (by (with_reducible repeat (first | refine blk_drewN ?_ _ | refine blk_drew ?_ | refine blk_alloc ?_ _)); refine blk_far ?_ NB924_942.out _; (with_reducible repeat (first | refine blk_drewN ?_ _ | refine blk_drew ?_ | refine blk_alloc ?_ _)); refine blk_far ?_ NB924_942.out _; (with_reducible repeat (first | refine blk_drewN ?_ _ | refine blk_drew ?_ | refine blk_alloc ?_ _)); exact BK924.out) hb); have n2_ := Aside0.mk (blk_below (g := gb931) (o := .cells #[.int .i64 t928, .int .u32 t929] 27 (0, 0)) (by (with_reducible repeat (first | refine blk_drewN ?_ _ | refine blk_drew ?_ | refine blk_alloc ?_ _)); refine blk_far ?_ NB931_942.out _; (with_reducible repeat (first | refine blk_drewN ?_ _ | refine blk_drew ?_ | refine blk_alloc ?_ _)); refine blk_far ?_ NB931_942.out _; (with_reducible repeat (first | refine blk_drewN ?_ _ | refine blk_drew ?_ | refine blk_alloc ?_ _)); exact BK931.out) hb); have n3_ := Aside0.mk (blk_below (g := gb934) (o := .cells #[.int .i64 t932, .int .u32 t933] 27 (0, 0)) (by (with_reducible repeat (first | refine blk_drewN ?_ _ | refine blk_drew ?_ | refine blk_alloc ?_ _)); refine blk_far ?_ NB934_942.out _; (with_reducible repeat (first | refine blk_drewN ?_ _ | refine blk_drew ?_ | refine blk_alloc ?_ _)); refine blk_far ?_ NB934_942.out _; (with_reducible repeat (first | refine blk_drewN ?_ _ | refine blk_drew ?_ | refine blk_alloc ?_ _)); exact BK934.out) hb); have n4_ := Aside0.mk (blk_below (g := gb938) (o := .cells #[.int .i64 t935, .int .u32 t936] 27 (0, 0)) (by (with_reducible repeat (first | refine blk_drewN ?_ _ | refine blk_drew ?_ | refine blk_alloc ?_ _)); refine blk_far ?_ NB938_942.out _; (with_reducible repeat (first | refine blk_drewN ?_ _ | refine blk_drew ?_ | refine blk_alloc ?_ _)); refine blk_far ?_ NB938_942.out _; (with_reducible repeat (first | refine blk_drewN ?_ _ | refine blk_drew ?_ | refine blk_alloc ?_ _)); exact BK938.out) hb); have n5_ := Aside0.mk (blk_below (g := gb942) (o := .cells #[.int .i64 t939, .int .u32 t940] 27 (0, 0)) (by (with_reducible repeat (first | refine blk_drewN ?_ _ | refine blk_drew ?_ | refine blk_alloc ?_ _)); refine blk_put (cs := #[.int .i64 t939, .int .u32 0]) ?_ 1 _ rfl; (with_reducible repeat (first | refine blk_drewN ?_ _ | refine blk_drew ?_ | refine blk_alloc ?_ _)); refine blk_put (cs := #[.int .i64 0, .int .u32 0]) ?_ 0 _ rfl; (with_reducible repeat (first | refine blk_drewN ?_ _ | refine blk_drew ?_ | refine blk_alloc ?_ _)); exact BK942.out) hb); have n6_ := Aside0.mk (below_step (by repeat (first | (with_reducible first | exact HB.out | apply below_alloc | apply pw_below_drewN | apply below_drew1 | refine below_set ?_ GE924.out | refine below_set ?_ GE931.out | refine below_set ?_ GE934.out | refine below_set ?_ GE938.out | refine below_set ?_ GE942.out) | exact HB.out)) hb); clear HO927; clear BK924; clear BK931; clear BK934; clear BK938; clear BK942; clear HB; have HO927 := n0_; have BK924 := n1_; have BK931 := n2_; have BK934 := n3_; have BK938 := n4_; have BK942 := n5_; have HB := n6_; clear n0_ n1_ n2_ n3_ n4_ n5_ n6_; (try clear hb); (try clear hb2); (try clear hk); (try clear hi)) | ((with_reducible refine gate_dst (N := 14) rfl ?_); refine box_event ?hg (N := 14) ?hd (cs := #[.int .i64 0, .int .u32 0]) (t := 27) ?hr ?_; (case hd => rfl); (case hg => rfl); (case hr => first | (go_simp; done) | (go_simp; rfl)); intro gb946 hg w53 hbox hb; have n0_ := Aside0.mk (Kd.R_below (by (with_reducible repeat (first | apply Kd.R_alloc | apply Kd.R_drewN | apply Kd.R_drew)); exact HO927.out) hb); have n1_ := Aside0.mk (blk_below (g := gb924) (o := .cells #[.int .i64 t922, .int .u32 t923] 27 (0, 0)) (by (with_reducible repeat (first | refine blk_drewN ?_ _ | refine blk_drew ?_ | refine blk_alloc ?_ _)); exact BK924.out) hb); have n2_ := Aside0.mk (blk_below (g := gb931) (o := .cells #[.int .i64 t928, .int .u32 t929] 27 (0, 0)) (by (with_reducible repeat (first | refine blk_drewN ?_ _ | refine blk_drew ?_ | refine blk_alloc ?_ _)); exact BK931.out) hb); have n3_ := Aside0.mk (blk_below (g := gb934) (o := .cells #[.int .i64 t932, .int .u32 t933] 27 (0, 0)) (by (with_reducible repeat (first | refine blk_drewN ?_ _ | refine blk_drew ?_ | refine blk_alloc ?_ _)); exact BK934.out) hb); have n4_ := Aside0.mk (blk_below (g := gb938) (o := .cells #[.int .i64 t935, .int .u32 t936] 27 (0, 0)) (by (with_reducible repeat (first | refine blk_drewN ?_ _ | refine blk_drew ?_ | refine blk_alloc ?_ _)); exact BK938.out) hb); have n5_ := Aside0.mk (blk_below (g := gb942) (o := .cells #[.int .i64 t939, .int .u32 t940] 27 (0, 0)) (by (with_reducible repeat (first | refine blk_drewN ?_ _ | refine blk_drew ?_ | refine blk_alloc ?_ _)); exact BK942.out) hb); have n6_ := Aside0.mk (below_step (by repeat (first | (with_reducible first | exact HB.out | apply below_alloc | apply pw_below_drewN | apply below_drew1 | refine below_set ?_ GE924.out | refine below_set ?_ GE931.out | refine below_set ?_ GE934.out | refine below_set ?_ GE938.out | refine below_set ?_ GE942.out) | exact HB.out)) hb); have n7_ := Aside0.mk (hbox); have n8_ := Aside0.mk ((by rw [hg]; exact (below_size (by repeat (first | (with_reducible first | exact HB.out | apply below_alloc | apply pw_below_drewN | apply below_drew1 | refine below_set ?_ GE924.out | refine below_set ?_ GE931.out | refine below_set ?_ GE934.out | refine below_set ?_ GE938.out | refine below_set ?_ GE942.out) | exact HB.out))) : w.heap.size ≤ gb946)); have n9_ := n8_; have n10_ := Aside0.mk ((by rw [hg]; exact Nat.ne_of_lt (blk_lt (g := gb924) (o := .cells #[.int .i64 t922, .int .u32 t923] 27 (0, 0)) (by (with_reducible repeat (first | refine blk_drewN ?_ _ | refine blk_drew ?_ | refine blk_alloc ?_ _)); exact BK924.out)) : gb924 ≠ gb946)); have n11_ := Aside0.mk (Ne.symm n10_.out); have n12_ := Aside0.mk ((by rw [hg]; exact Nat.ne_of_lt (blk_lt (g := gb931) (o := .cells #[.int .i64 t928, .int .u32 t929] 27 (0, 0)) (by (with_reducible repeat (first | refine blk_drewN ?_ _ | refine blk_drew ?_ | refine blk_alloc ?_ _)); exact BK931.out)) : gb931 ≠ gb946)); have n13_ := Aside0.mk (Ne.symm n12_.out); have n14_ := Aside0.mk ((by rw [hg]; exact Nat.ne_of_lt (blk_lt (g := gb934) (o := .cells #[.int .i64 t932, .int .u32 t933] 27 (0, 0)) (by (with_reducible repeat (first | refine blk_drewN ?_ _ | refine blk_drew ?_ | refine blk_alloc ?_ _)); exact BK934.out)) : gb934 ≠ gb946)); have n15_ := Aside0.mk (Ne.symm n14_.out); have n16_ := Aside0.mk ((by rw [hg]; exact Nat.ne_of_lt (blk_lt (g := gb938) (o := .cells #[.int .i64 t935, .int .u32 t936] 27 (0, 0)) (by (with_reducible repeat (first | refine blk_drewN ?_ _ | refine blk_drew ?_ | refine blk_alloc ?_ _)); exact BK938.out)) : gb938 ≠ gb946)); have n17_ := Aside0.mk (Ne.symm n16_.out); have n18_ := Aside0.mk ((by rw [hg]; exact Nat.ne_of_lt (blk_lt (g := gb942) (o := .cells #[.int .i64 t939, .int .u32 t940] 27 (0, 0)) (by (with_reducible repeat (first | refine blk_drewN ?_ _ | refine blk_drew ?_ | refine blk_alloc ?_ _)); exact BK942.out)) : gb942 ≠ gb946)); have n19_ := Aside0.mk (Ne.symm n18_.out); clear HO927; clear BK924; clear BK931; clear BK934; clear BK938; clear BK942; clear HB; have HO927 := n0_; have BK924 := n1_; have BK931 := n2_; have BK934 := n3_; have BK938 := n4_; have BK942 := n5_; have HB := n6_; have BK946 := n7_; have GW946 := n8_; have GE946 := n9_; have NB924_946 := n10_; have NB946_924 := n11_; have NB931_946 := n12_; have NB946_931 := n13_; have NB934_946 := n14_; have NB946_934 := n15_; have NB938_946 := n16_; have NB946_938 := n17_; have NB942_946 := n18_; have NB946_942 := n19_; clear n0_ n1_ n2_ n3_ n4_ n5_ n6_ n7_ n8_ n9_ n10_ n11_ n12_ n13_ n14_ n15_ n16_ n17_ n18_ n19_; clear hb hbox hg; have hnb54 := NB946_924.out; have hnc54 := NB924_946.out; have hnb55 := NB946_931.out; have hnc55 := NB931_946.out; have hnb56 := NB946_934.out; have hnc56 := NB934_946.out; have hnb57 := NB946_938.out; have hnc57 := NB938_946.out; have hnb58 := NB946_942.out; have hnc58 := NB942_946.out; have hcz59_0 : w53.cell? ⟨gb946, 0, none⟩ = some (.int .i64 0) := (blk_cell BK946.out 0).trans rfl; have hcz59_1 : w53.cell? ⟨gb946, 1, none⟩ = some (.int .u32 0) := (blk_cell BK946.out 1).trans rfl; have hfz59_0 := blk_frozen BK946.out 0; have hfz59_1 := blk_frozen BK946.out 1; have hcz60_0 : w53.cell? ⟨gb938, 0, none⟩ = some (.int .i64 t935) := (blk_cell BK938.out 0).trans rfl; have hcz60_1 : w53.cell? ⟨gb938, 1, none⟩ = some (.int .u32 t936) := (blk_cell BK938.out 1).trans rfl; have hfz60_0 := blk_frozen BK938.out 0; have hfz60_1 := blk_frozen BK938.out 1) | ((with_reducible refine gate_callee (f := 40) rfl ?_); refine goesL_ (some 70) rfl rfl Try.func40 (by kernel_rfl) rfl #[.agg #[.int .i64 t935, .int .u32 t936]] rfl (by (try simp only [List.map_toArray, List.map_cons, List.map_nil]); first | done | rfl | (simp only [List.length_drop, List.length_take]; rfl)) ?_; (with_reducible refine (impl_LeastGraph.calls t935 t936 t947 t948 t949 _ A13.out).mono ?_); rintro e w61 ⟨rfl, hb⟩; refine ⟨_, rfl, ?_⟩; have n0_ := Aside0.mk (Kd.R_below (by (with_reducible repeat (first | apply Kd.R_alloc | apply Kd.R_drewN | apply Kd.R_drew)); exact (Kd.R_mono (Kd.R_far (p := ⟨gb946, 1, none⟩) (Kd.R_far (p := ⟨gb946, 0, none⟩) (Kd.R_types HO927.out BK946.out (by decide)) (fun _ hk => hk.2) (.int .i64 t943)) (fun _ hk => hk.2) (.int .u32 t944)) (fun _ h_ => h_.1))) hb); have n1_ := Aside0.mk (blk_below (g := gb924) (o := .cells #[.int .i64 t922, .int .u32 t923] 27 (0, 0)) (by (with_reducible repeat (first | refine blk_drewN ?_ _ | refine blk_drew ?_ | refine blk_alloc ?_ _)); refine blk_far ?_ NB924_946.out _; (with_reducible repeat (first | refine blk_drewN ?_ _ | refine blk_drew ?_ | refine blk_alloc ?_ _)); refine blk_far ?_ NB924_946.out _; (with_reducible repeat (first | refine blk_drewN ?_ _ | refine blk_drew ?_ | refine blk_alloc ?_ _)); exact BK924.out) hb); have n2_ := Aside0.mk (blk_below (g := gb931) (o := .cells #[.int .i64 t928, .int .u32 t929] 27 (0, 0)) (by (with_reducible repeat (first | refine blk_drewN ?_ _ | refine blk_drew ?_ | refine blk_alloc ?_ _)); refine blk_far ?_ NB931_946.out _; (with_reducible repeat (first | refine blk_drewN ?_ _ | refine blk_drew ?_ | refine blk_alloc ?_ _)); refine blk_far ?_ NB931_946.out _; (with_reducible repeat (first | refine blk_drewN ?_ _ | refine blk_drew ?_ | refine blk_alloc ?_ _)); exact BK931.out) hb); have n3_ := Aside0.mk (blk_below (g := gb934) (o := .cells #[.int .i64 t932, .int .u32 t933] 27 (0, 0)) (by (with_reducible repeat (first | refine blk_drewN ?_ _ | refine blk_drew ?_ | refine blk_alloc ?_ _)); refine blk_far ?_ NB934_946.out _; (with_reducible repeat (first | refine blk_drewN ?_ _ | refine blk_drew ?_ | refine blk_alloc ?_ _)); refine blk_far ?_ NB934_946.out _; (with_reducible repeat (first | refine blk_drewN ?_ _ | refine blk_drew ?_ | refine blk_alloc ?_ _)); exact BK934.out) hb); have n4_ := Aside0.mk (blk_below (g := gb938) (o := .cells #[.int .i64 t935, .int .u32 t936] 27 (0, 0)) (by (with_reducible repeat (first | refine blk_drewN ?_ _ | refine blk_drew ?_ | refine blk_alloc ?_ _)); refine blk_far ?_ NB938_946.out _; (with_reducible repeat (first | refine blk_drewN ?_ _ | refine blk_drew ?_ | refine blk_alloc ?_ _)); refine blk_far ?_ NB938_946.out _; (with_reducible repeat (first | refine blk_drewN ?_ _ | refine blk_drew ?_ | refine blk_alloc ?_ _)); exact BK938.out) hb); have n5_ := Aside0.mk (blk_below (g := gb942) (o := .cells #[.int .i64 t939, .int .u32 t940] 27 (0, 0)) (by (with_reducible repeat (first | refine blk_drewN ?_ _ | refine blk_drew ?_ | refine blk_alloc ?_ _)); refine blk_far ?_ NB942_946.out _; (with_reducible repeat (first | refine blk_drewN ?_ _ | refine blk_drew ?_ | refine blk_alloc ?_ _)); refine blk_far ?_ NB942_946.out _; (with_reducible repeat (first | refine blk_drewN ?_ _ | refine blk_drew ?_ | refine blk_alloc ?_ _)); exact BK942.out) hb); have n6_ := Aside0.mk (blk_below (g := gb946) (o := .cells #[.int .i64 t943, .int .u32 t944] 27 (0, 0)) (by (with_reducible repeat (first | refine blk_drewN ?_ _ | refine blk_drew ?_ | refine blk_alloc ?_ _)); refine blk_put (cs := #[.int .i64 t943, .int .u32 0]) ?_ 1 _ rfl; (with_reducible repeat (first | refine blk_drewN ?_ _ | refine blk_drew ?_ | refine blk_alloc ?_ _)); refine blk_put (cs := #[.int .i64 0, .int .u32 0]) ?_ 0 _ rfl; (with_reducible repeat (first | refine blk_drewN ?_ _ | refine blk_drew ?_ | refine blk_alloc ?_ _)); exact BK946.out) hb); have n7_ := Aside0.mk (below_step (by repeat (first | (with_reducible first | exact HB.out | apply below_alloc | apply pw_below_drewN | apply below_drew1 | refine below_set ?_ GE924.out | refine below_set ?_ GE931.out | refine below_set ?_ GE934.out | refine below_set ?_ GE938.out | refine below_set ?_ GE942.out | refine below_set ?_ GE946.out) | exact HB.out)) hb); clear HO927; clear BK924; clear BK931; clear BK934; clear BK938; clear BK942; clear BK946; clear HB; have HO927 := n0_; have BK924 := n1_; have BK931 := n2_; have BK934 := n3_; have BK938 := n4_; have BK942 := n5_; have BK946 := n6_; have HB := n7_; clear n0_ n1_ n2_ n3_ n4_ n5_ n6_ n7_; (try clear hb); (try clear hb2); (try clear hk); (try clear hi)) | ((with_reducible refine gate_dst (N := 16) rfl ?_); refine box_event ?hg (N := 16) ?hd (cs := #[.int .i64 0, .int .u32 0]) (t := 27) ?hr ?_; (case hd => rfl); (case hg => rfl); (case hr => first | (go_simp; done) | (go_simp; rfl)); intro gb950 hg w62 hbox hb; have n0_ := Aside0.mk (Kd.R_below (by (with_reducible repeat (first | apply Kd.R_alloc | apply Kd.R_drewN | apply Kd.R_drew)); exact HO927.out) hb); have n1_ := Aside0.mk (blk_below (g := gb924) (o := .cells #[.int .i64 t922, .int .u32 t923] 27 (0, 0)) (by (with_reducible repeat (first | refine blk_drewN ?_ _ | refine blk_drew ?_ | refine blk_alloc ?_ _)); exact BK924.out) hb); have n2_ := Aside0.mk (blk_below (g := gb931) (o := .cells #[.int .i64 t928, .int .u32 t929] 27 (0, 0)) (by (with_reducible repeat (first | refine blk_drewN ?_ _ | refine blk_drew ?_ | refine blk_alloc ?_ _)); exact BK931.out) hb); have n3_ := Aside0.mk (blk_below (g := gb934) (o := .cells #[.int .i64 t932, .int .u32 t933] 27 (0, 0)) (by (with_reducible repeat (first | refine blk_drewN ?_ _ | refine blk_drew ?_ | refine blk_alloc ?_ _)); exact BK934.out) hb); have n4_ := Aside0.mk (blk_below (g := gb938) (o := .cells #[.int .i64 t935, .int .u32 t936] 27 (0, 0)) (by (with_reducible repeat (first | refine blk_drewN ?_ _ | refine blk_drew ?_ | refine blk_alloc ?_ _)); exact BK938.out) hb); have n5_ := Aside0.mk (blk_below (g := gb942) (o := .cells #[.int .i64 t939, .int .u32 t940] 27 (0, 0)) (by (with_reducible repeat (first | refine blk_drewN ?_ _ | refine blk_drew ?_ | refine blk_alloc ?_ _)); exact BK942.out) hb); have n6_ := Aside0.mk (blk_below (g := gb946) (o := .cells #[.int .i64 t943, .int .u32 t944] 27 (0, 0)) (by (with_reducible repeat (first | refine blk_drewN ?_ _ | refine blk_drew ?_ | refine blk_alloc ?_ _)); exact BK946.out) hb); have n7_ := Aside0.mk (below_step (by repeat (first | (with_reducible first | exact HB.out | apply below_alloc | apply pw_below_drewN | apply below_drew1 | refine below_set ?_ GE924.out | refine below_set ?_ GE931.out | refine below_set ?_ GE934.out | refine below_set ?_ GE938.out | refine below_set ?_ GE942.out | refine below_set ?_ GE946.out) | exact HB.out)) hb); have n8_ := Aside0.mk (hbox); have n9_ := Aside0.mk ((by rw [hg]; exact (below_size (by repeat (first | (with_reducible first | exact HB.out | apply below_alloc | apply pw_below_drewN | apply below_drew1 | refine below_set ?_ GE924.out | refine below_set ?_ GE931.out | refine below_set ?_ GE934.out | refine below_set ?_ GE938.out | refine below_set ?_ GE942.out | refine below_set ?_ GE946.out) | exact HB.out))) : w.heap.size ≤ gb950)); have n10_ := n9_; have n11_ := Aside0.mk ((by rw [hg]; exact Nat.ne_of_lt (blk_lt (g := gb924) (o := .cells #[.int .i64 t922, .int .u32 t923] 27 (0, 0)) (by (with_reducible repeat (first | refine blk_drewN ?_ _ | refine blk_drew ?_ | refine blk_alloc ?_ _)); exact BK924.out)) : gb924 ≠ gb950)); have n12_ := Aside0.mk (Ne.symm n11_.out); have n13_ := Aside0.mk ((by rw [hg]; exact Nat.ne_of_lt (blk_lt (g := gb931) (o := .cells #[.int .i64 t928, .int .u32 t929] 27 (0, 0)) (by (with_reducible repeat (first | refine blk_drewN ?_ _ | refine blk_drew ?_ | refine blk_alloc ?_ _)); exact BK931.out)) : gb931 ≠ gb950)); have n14_ := Aside0.mk (Ne.symm n13_.out); have n15_ := Aside0.mk ((by rw [hg]; exact Nat.ne_of_lt (blk_lt (g := gb934) (o := .cells #[.int .i64 t932, .int .u32 t933] 27 (0, 0)) (by (with_reducible repeat (first | refine blk_drewN ?_ _ | refine blk_drew ?_ | refine blk_alloc ?_ _)); exact BK934.out)) : gb934 ≠ gb950)); have n16_ := Aside0.mk (Ne.symm n15_.out); have n17_ := Aside0.mk ((by rw [hg]; exact Nat.ne_of_lt (blk_lt (g := gb938) (o := .cells #[.int .i64 t935, .int .u32 t936] 27 (0, 0)) (by (with_reducible repeat (first | refine blk_drewN ?_ _ | refine blk_drew ?_ | refine blk_alloc ?_ _)); exact BK938.out)) : gb938 ≠ gb950)); have n18_ := Aside0.mk (Ne.symm n17_.out); have n19_ := Aside0.mk ((by rw [hg]; exact Nat.ne_of_lt (blk_lt (g := gb942) (o := .cells #[.int .i64 t939, .int .u32 t940] 27 (0, 0)) (by (with_reducible repeat (first | refine blk_drewN ?_ _ | refine blk_drew ?_ | refine blk_alloc ?_ _)); exact BK942.out)) : gb942 ≠ gb950)); have n20_ := Aside0.mk (Ne.symm n19_.out); have n21_ := Aside0.mk ((by rw [hg]; exact Nat.ne_of_lt (blk_lt (g := gb946) (o := .cells #[.int .i64 t943, .int .u32 t944] 27 (0, 0)) (by (with_reducible repeat (first | refine blk_drewN ?_ _ | refine blk_drew ?_ | refine blk_alloc ?_ _)); exact BK946.out)) : gb946 ≠ gb950)); have n22_ := Aside0.mk (Ne.symm n21_.out); clear HO927; clear BK924; clear BK931; clear BK934; clear BK938; clear BK942; clear BK946; clear HB; have HO927 := n0_; have BK924 := n1_; have BK931 := n2_; have BK934 := n3_; have BK938 := n4_; have BK942 := n5_; have BK946 := n6_; have HB := n7_; have BK950 := n8_; have GW950 := n9_; have GE950 := n10_; have NB924_950 := n11_; have NB950_924 := n12_; have NB931_950 := n13_; have NB950_931 := n14_; have NB934_950 := n15_; have NB950_934 := n16_; have NB938_950 := n17_; have NB950_938 := n18_; have NB942_950 := n19_; have NB950_942 := n20_; have NB946_950 := n21_; have NB950_946 := n22_; clear n0_ n1_ n2_ n3_ n4_ n5_ n6_ n7_ n8_ n9_ n10_ n11_ n12_ n13_ n14_ n15_ n16_ n17_ n18_ n19_ n20_ n21_ n22_; clear hb hbox hg; have hnb63 := NB950_924.out; have hnc63 := NB924_950.out; have hnb64 := NB950_931.out; have hnc64 := NB931_950.out; have hnb65 := NB950_934.out; have hnc65 := NB934_950.out; have hnb66 := NB950_938.out; have hnc66 := NB938_950.out; have hnb67 := NB950_942.out; have hnc67 := NB942_950.out; have hnb68 := NB950_946.out; have hnc68 := NB946_950.out; have hcz69_0 : w62.cell? ⟨gb950, 0, none⟩ = some (.int .i64 0) := (blk_cell BK950.out 0).trans rfl; have hcz69_1 : w62.cell? ⟨gb950, 1, none⟩ = some (.int .u32 0) := (blk_cell BK950.out 1).trans rfl; have hfz69_0 := blk_frozen BK950.out 0; have hfz69_1 := blk_frozen BK950.out 1; have hcz70_0 : w62.cell? ⟨gb924, 0, none⟩ = some (.int .i64 t922) := (blk_cell BK924.out 0).trans rfl; have hcz70_1 : w62.cell? ⟨gb924, 1, none⟩ = some (.int .u32 t923) := (blk_cell BK924.out 1).trans rfl; have hfz70_0 := blk_frozen BK924.out 0; have hfz70_1 := blk_frozen BK924.out 1; have hcz71_0 : w62.cell? ⟨gb931, 0, none⟩ = some (.int .i64 t928) := (blk_cell BK931.out 0).trans rfl; have hcz71_1 : w62.cell? ⟨gb931, 1, none⟩ = some (.int .u32 t929) := (blk_cell BK931.out 1).trans rfl; have hfz71_0 := blk_frozen BK931.out 0; have hfz71_1 := blk_frozen BK931.out 1) | ((with_reducible refine gate_callee (f := 41) rfl ?_); refine goesL_ (some 76) rfl rfl Try.func41 (by kernel_rfl) rfl #[.agg #[.int .i64 t922, .int .u32 t923], .agg #[.int .i64 t928, .int .u32 t929]] rfl (by (try simp only [List.map_toArray, List.map_cons, List.map_nil]); first | done | rfl | (simp only [List.length_drop, List.length_take]; rfl)) ?_; (with_reducible refine (impl_AreAlike.calls t922 t923 t928 t929 t951 t952 _ A14.out).mono ?_); rintro e w72 ⟨rfl, hb⟩; refine ⟨_, rfl, ?_⟩; have n0_ := Aside0.mk (Kd.R_below (by (with_reducible repeat (first | apply Kd.R_alloc | apply Kd.R_drewN | apply Kd.R_drew)); exact (Kd.R_mono (Kd.R_far (p := ⟨gb950, 1, none⟩) (Kd.R_far (p := ⟨gb950, 0, none⟩) (Kd.R_types HO927.out BK950.out (by decide)) (fun _ hk => hk.2) (.int .i64 t947)) (fun _ hk => hk.2) (.int .u32 t948)) (fun _ h_ => h_.1))) hb); have n1_ := Aside0.mk (blk_below (g := gb924) (o := .cells #[.int .i64 t922, .int .u32 t923] 27 (0, 0)) (by (with_reducible repeat (first | refine blk_drewN ?_ _ | refine blk_drew ?_ | refine blk_alloc ?_ _)); refine blk_far ?_ NB924_950.out _; (with_reducible repeat (first | refine blk_drewN ?_ _ | refine blk_drew ?_ | refine blk_alloc ?_ _)); refine blk_far ?_ NB924_950.out _; (with_reducible repeat (first | refine blk_drewN ?_ _ | refine blk_drew ?_ | refine blk_alloc ?_ _)); exact BK924.out) hb); have n2_ := Aside0.mk (blk_below (g := gb931) (o := .cells #[.int .i64 t928, .int .u32 t929] 27 (0, 0)) (by (with_reducible repeat (first | refine blk_drewN ?_ _ | refine blk_drew ?_ | refine blk_alloc ?_ _)); refine blk_far ?_ NB931_950.out _; (with_reducible repeat (first | refine blk_drewN ?_ _ | refine blk_drew ?_ | refine blk_alloc ?_ _)); refine blk_far ?_ NB931_950.out _; (with_reducible repeat (first | refine blk_drewN ?_ _ | refine blk_drew ?_ | refine blk_alloc ?_ _)); exact BK931.out) hb); have n3_ := Aside0.mk (blk_below (g := gb934) (o := .cells #[.int .i64 t932, .int .u32 t933] 27 (0, 0)) (by (with_reducible repeat (first | refine blk_drewN ?_ _ | refine blk_drew ?_ | refine blk_alloc ?_ _)); refine blk_far ?_ NB934_950.out _; (with_reducible repeat (first | refine blk_drewN ?_ _ | refine blk_drew ?_ | refine blk_alloc ?_ _)); refine blk_far ?_ NB934_950.out _; (with_reducible repeat (first | refine blk_drewN ?_ _ | refine blk_drew ?_ | refine blk_alloc ?_ _)); exact BK934.out) hb); have n4_ := Aside0.mk (blk_below (g := gb938) (o := .cells #[.int .i64 t935, .int .u32 t936] 27 (0, 0)) (by (with_reducible repeat (first | refine blk_drewN ?_ _ | refine blk_drew ?_ | refine blk_alloc ?_ _)); refine blk_far ?_ NB938_950.out _; (with_reducible repeat (first | refine blk_drewN ?_ _ | refine blk_drew ?_ | refine blk_alloc ?_ _)); refine blk_far ?_ NB938_950.out _; (with_reducible repeat (first | refine blk_drewN ?_ _ | refine blk_drew ?_ | refine blk_alloc ?_ _)); exact BK938.out) hb); have n5_ := Aside0.mk (blk_below (g := gb942) (o := .cells #[.int .i64 t939, .int .u32 t940] 27 (0, 0)) (by (with_reducible repeat (first | refine blk_drewN ?_ _ | refine blk_drew ?_ | refine blk_alloc ?_ _)); refine blk_far ?_ NB942_950.out _; (with_reducible repeat (first | refine blk_drewN ?_ _ | refine blk_drew ?_ | refine blk_alloc ?_ _)); refine blk_far ?_ NB942_950.out _; (with_reducible repeat (first | refine blk_drewN ?_ _ | refine blk_drew ?_ | refine blk_alloc ?_ _)); exact BK942.out) hb); have n6_ := Aside0.mk (blk_below (g := gb946) (o := .cells #[.int .i64 t943, .int .u32 t944] 27 (0, 0)) (by (with_reducible repeat (first | refine blk_drewN ?_ _ | refine blk_drew ?_ | refine blk_alloc ?_ _)); refine blk_far ?_ NB946_950.out _; (with_reducible repeat (first | refine blk_drewN ?_ _ | refine blk_drew ?_ | refine blk_alloc ?_ _)); refine blk_far ?_ NB946_950.out _; (with_reducible repeat (first | refine blk_drewN ?_ _ | refine blk_drew ?_ | refine blk_alloc ?_ _)); exact BK946.out) hb); have n7_ := Aside0.mk (blk_below (g := gb950) (o := .cells #[.int .i64 t947, .int .u32 t948] 27 (0, 0)) (by (with_reducible repeat (first | refine blk_drewN ?_ _ | refine blk_drew ?_ | refine blk_alloc ?_ _)); refine blk_put (cs := #[.int .i64 t947, .int .u32 0]) ?_ 1 _ rfl; (with_reducible repeat (first | refine blk_drewN ?_ _ | refine blk_drew ?_ | refine blk_alloc ?_ _)); refine blk_put (cs := #[.int .i64 0, .int .u32 0]) ?_ 0 _ rfl; (with_reducible repeat (first | refine blk_drewN ?_ _ | refine blk_drew ?_ | refine blk_alloc ?_ _)); exact BK950.out) hb); have n8_ := Aside0.mk (below_step (by repeat (first | (with_reducible first | exact HB.out | apply below_alloc | apply pw_below_drewN | apply below_drew1 | refine below_set ?_ GE924.out | refine below_set ?_ GE931.out | refine below_set ?_ GE934.out | refine below_set ?_ GE938.out | refine below_set ?_ GE942.out | refine below_set ?_ GE946.out | refine below_set ?_ GE950.out) | exact HB.out)) hb); clear HO927; clear BK924; clear BK931; clear BK934; clear BK938; clear BK942; clear BK946; clear BK950; clear HB; have HO927 := n0_; have BK924 := n1_; have BK931 := n2_; have BK934 := n3_; have BK938 := n4_; have BK942 := n5_; have BK946 := n6_; have BK950 := n7_; have HB := n8_; clear n0_ n1_ n2_ n3_ n4_ n5_ n6_ n7_ n8_; (try clear hb); (try clear hb2); (try clear hk); (try clear hi); have hcz73_0 : w72.cell? ⟨gb924, 0, none⟩ = some (.int .i64 t922) := (blk_cell BK924.out 0).trans rfl; have hcz73_1 : w72.cell? ⟨gb924, 1, none⟩ = some (.int .u32 t923) := (blk_cell BK924.out 1).trans rfl; have hfz73_0 := blk_frozen BK924.out 0; have hfz73_1 := blk_frozen BK924.out 1; have hcz74_0 : w72.cell? ⟨gb934, 0, none⟩ = some (.int .i64 t932) := (blk_cell BK934.out 0).trans rfl; have hcz74_1 : w72.cell? ⟨gb934, 1, none⟩ = some (.int .u32 t933) := (blk_cell BK934.out 1).trans rfl; have hfz74_0 := blk_frozen BK934.out 0; have hfz74_1 := blk_frozen BK934.out 1) | ((with_reducible refine gate_callee (f := 41) rfl ?_); refine goesL_ (some 82) rfl rfl Try.func41 (by kernel_rfl) rfl #[.agg #[.int .i64 t922, .int .u32 t923], .agg #[.int .i64 t932, .int .u32 t933]] rfl (by (try simp only [List.map_toArray, List.map_cons, List.map_nil]); first | done | rfl | (simp only [List.length_drop, List.length_take]; rfl)) ?_; (with_reducible refine (impl_AreAlike.calls t922 t923 t932 t933 t953 t954 _ A15.out).mono ?_); rintro e w75 ⟨rfl, hb⟩; refine ⟨_, rfl, ?_⟩; have n0_ := Aside0.mk (Kd.R_below (by (with_reducible repeat (first | apply Kd.R_alloc | apply Kd.R_drewN | apply Kd.R_drew)); exact HO927.out) hb); have n1_ := Aside0.mk (blk_below (g := gb924) (o := .cells #[.int .i64 t922, .int .u32 t923] 27 (0, 0)) (by (with_reducible repeat (first | refine blk_drewN ?_ _ | refine blk_drew ?_ | refine blk_alloc ?_ _)); exact BK924.out) hb); have n2_ := Aside0.mk (blk_below (g := gb931) (o := .cells #[.int .i64 t928, .int .u32 t929] 27 (0, 0)) (by (with_reducible repeat (first | refine blk_drewN ?_ _ | refine blk_drew ?_ | refine blk_alloc ?_ _)); exact BK931.out) hb); have n3_ := Aside0.mk (blk_below (g := gb934) (o := .cells #[.int .i64 t932, .int .u32 t933] 27 (0, 0)) (by (with_reducible repeat (first | refine blk_drewN ?_ _ | refine blk_drew ?_ | refine blk_alloc ?_ _)); exact BK934.out) hb); have n4_ := Aside0.mk (blk_below (g := gb938) (o := .cells #[.int .i64 t935, .int .u32 t936] 27 (0, 0)) (by (with_reducible repeat (first | refine blk_drewN ?_ _ | refine blk_drew ?_ | refine blk_alloc ?_ _)); exact BK938.out) hb); have n5_ := Aside0.mk (blk_below (g := gb942) (o := .cells #[.int .i64 t939, .int .u32 t940] 27 (0, 0)) (by (with_reducible repeat (first | refine blk_drewN ?_ _ | refine blk_drew ?_ | refine blk_alloc ?_ _)); exact BK942.out) hb); have n6_ := Aside0.mk (blk_below (g := gb946) (o := .cells #[.int .i64 t943, .int .u32 t944] 27 (0, 0)) (by (with_reducible repeat (first | refine blk_drewN ?_ _ | refine blk_drew ?_ | refine blk_alloc ?_ _)); exact BK946.out) hb); have n7_ := Aside0.mk (blk_below (g := gb950) (o := .cells #[.int .i64 t947, .int .u32 t948] 27 (0, 0)) (by (with_reducible repeat (first | refine blk_drewN ?_ _ | refine blk_drew ?_ | refine blk_alloc ?_ _)); exact BK950.out) hb); have n8_ := Aside0.mk (below_step (by repeat (first | (with_reducible first | exact HB.out | apply below_alloc | apply pw_below_drewN | apply below_drew1 | refine below_set ?_ GE924.out | refine below_set ?_ GE931.out | refine below_set ?_ GE934.out | refine below_set ?_ GE938.out | refine below_set ?_ GE942.out | refine below_set ?_ GE946.out | refine below_set ?_ GE950.out) | exact HB.out)) hb); clear HO927; clear BK924; clear BK931; clear BK934; clear BK938; clear BK942; clear BK946; clear BK950; clear HB; have HO927 := n0_; have BK924 := n1_; have BK931 := n2_; have BK934 := n3_; have BK938 := n4_; have BK942 := n5_; have BK946 := n6_; have BK950 := n7_; have HB := n8_; clear n0_ n1_ n2_ n3_ n4_ n5_ n6_ n7_ n8_; (try clear hb); (try clear hb2); (try clear hk); (try clear hi); have hcz76_0 : w75.cell? ⟨gb924, 0, none⟩ = some (.int .i64 t922) := (blk_cell BK924.out 0).trans rfl; have hcz76_1 : w75.cell? ⟨gb924, 1, none⟩ = some (.int .u32 t923) := (blk_cell BK924.out 1).trans rfl; have hfz76_0 := blk_frozen BK924.out 0; have hfz76_1 := blk_frozen BK924.out 1) | ((with_reducible refine gate_callee (f := 42) rfl ?_); refine goesL_ (some 87) rfl rfl Try.func42 (by kernel_rfl) rfl #[.agg #[.int .i64 t922, .int .u32 t923]] rfl (by (try simp only [List.map_toArray, List.map_cons, List.map_nil]); first | done | rfl | (simp only [List.length_drop, List.length_take]; rfl)) ?_; (with_reducible refine (spec_LeastGraph.calls k t922 t923 t955 t956 t957 _ A16.out).mono ?_); rintro e w77 ⟨rfl, hb⟩; refine ⟨_, rfl, ?_⟩; have n0_ := Aside0.mk (Kd.R_below (by (with_reducible repeat (first | apply Kd.R_alloc | apply Kd.R_drewN | apply Kd.R_drew)); exact HO927.out) hb); have n1_ := Aside0.mk (blk_below (g := gb924) (o := .cells #[.int .i64 t922, .int .u32 t923] 27 (0, 0)) (by (with_reducible repeat (first | refine blk_drewN ?_ _ | refine blk_drew ?_ | refine blk_alloc ?_ _)); exact BK924.out) hb); have n2_ := Aside0.mk (blk_below (g := gb931) (o := .cells #[.int .i64 t928, .int .u32 t929] 27 (0, 0)) (by (with_reducible repeat (first | refine blk_drewN ?_ _ | refine blk_drew ?_ | refine blk_alloc ?_ _)); exact BK931.out) hb); have n3_ := Aside0.mk (blk_below (g := gb934) (o := .cells #[.int .i64 t932, .int .u32 t933] 27 (0, 0)) (by (with_reducible repeat (first | refine blk_drewN ?_ _ | refine blk_drew ?_ | refine blk_alloc ?_ _)); exact BK934.out) hb); have n4_ := Aside0.mk (blk_below (g := gb938) (o := .cells #[.int .i64 t935, .int .u32 t936] 27 (0, 0)) (by (with_reducible repeat (first | refine blk_drewN ?_ _ | refine blk_drew ?_ | refine blk_alloc ?_ _)); exact BK938.out) hb); have n5_ := Aside0.mk (blk_below (g := gb942) (o := .cells #[.int .i64 t939, .int .u32 t940] 27 (0, 0)) (by (with_reducible repeat (first | refine blk_drewN ?_ _ | refine blk_drew ?_ | refine blk_alloc ?_ _)); exact BK942.out) hb); have n6_ := Aside0.mk (blk_below (g := gb946) (o := .cells #[.int .i64 t943, .int .u32 t944] 27 (0, 0)) (by (with_reducible repeat (first | refine blk_drewN ?_ _ | refine blk_drew ?_ | refine blk_alloc ?_ _)); exact BK946.out) hb); have n7_ := Aside0.mk (blk_below (g := gb950) (o := .cells #[.int .i64 t947, .int .u32 t948] 27 (0, 0)) (by (with_reducible repeat (first | refine blk_drewN ?_ _ | refine blk_drew ?_ | refine blk_alloc ?_ _)); exact BK950.out) hb); have n8_ := Aside0.mk (below_step (by repeat (first | (with_reducible first | exact HB.out | apply below_alloc | apply pw_below_drewN | apply below_drew1 | refine below_set ?_ GE924.out | refine below_set ?_ GE931.out | refine below_set ?_ GE934.out | refine below_set ?_ GE938.out | refine below_set ?_ GE942.out | refine below_set ?_ GE946.out | refine below_set ?_ GE950.out) | exact HB.out)) hb); clear HO927; clear BK924; clear BK931; clear BK934; clear BK938; clear BK942; clear BK946; clear BK950; clear HB; have HO927 := n0_; have BK924 := n1_; have BK931 := n2_; have BK934 := n3_; have BK938 := n4_; have BK942 := n5_; have BK946 := n6_; have BK950 := n7_; have HB := n8_; clear n0_ n1_ n2_ n3_ n4_ n5_ n6_ n7_ n8_; (try clear hb); (try clear hb2); (try clear hk); (try clear hi)) | ((with_reducible refine gate_dst (N := 22) rfl ?_); refine box_event ?hg (N := 22) ?hd (cs := #[.int .i64 0, .int .u32 0]) (t := 27) ?hr ?_; (case hd => rfl); (case hg => rfl); (case hr => first | (go_simp; done) | (go_simp; rfl)); intro gb958 hg w78 hbox hb; have n0_ := Aside0.mk (Kd.R_below (by (with_reducible repeat (first | apply Kd.R_alloc | apply Kd.R_drewN | apply Kd.R_drew)); exact HO927.out) hb); have n1_ := Aside0.mk (blk_below (g := gb924) (o := .cells #[.int .i64 t922, .int .u32 t923] 27 (0, 0)) (by (with_reducible repeat (first | refine blk_drewN ?_ _ | refine blk_drew ?_ | refine blk_alloc ?_ _)); exact BK924.out) hb); have n2_ := Aside0.mk (blk_below (g := gb931) (o := .cells #[.int .i64 t928, .int .u32 t929] 27 (0, 0)) (by (with_reducible repeat (first | refine blk_drewN ?_ _ | refine blk_drew ?_ | refine blk_alloc ?_ _)); exact BK931.out) hb); have n3_ := Aside0.mk (blk_below (g := gb934) (o := .cells #[.int .i64 t932, .int .u32 t933] 27 (0, 0)) (by (with_reducible repeat (first | refine blk_drewN ?_ _ | refine blk_drew ?_ | refine blk_alloc ?_ _)); exact BK934.out) hb); have n4_ := Aside0.mk (blk_below (g := gb938) (o := .cells #[.int .i64 t935, .int .u32 t936] 27 (0, 0)) (by (with_reducible repeat (first | refine blk_drewN ?_ _ | refine blk_drew ?_ | refine blk_alloc ?_ _)); exact BK938.out) hb); have n5_ := Aside0.mk (blk_below (g := gb942) (o := .cells #[.int .i64 t939, .int .u32 t940] 27 (0, 0)) (by (with_reducible repeat (first | refine blk_drewN ?_ _ | refine blk_drew ?_ | refine blk_alloc ?_ _)); exact BK942.out) hb); have n6_ := Aside0.mk (blk_below (g := gb946) (o := .cells #[.int .i64 t943, .int .u32 t944] 27 (0, 0)) (by (with_reducible repeat (first | refine blk_drewN ?_ _ | refine blk_drew ?_ | refine blk_alloc ?_ _)); exact BK946.out) hb); have n7_ := Aside0.mk (blk_below (g := gb950) (o := .cells #[.int .i64 t947, .int .u32 t948] 27 (0, 0)) (by (with_reducible repeat (first | refine blk_drewN ?_ _ | refine blk_drew ?_ | refine blk_alloc ?_ _)); exact BK950.out) hb); have n8_ := Aside0.mk (below_step (by repeat (first | (with_reducible first | exact HB.out | apply below_alloc | apply pw_below_drewN | apply below_drew1 | refine below_set ?_ GE924.out | refine below_set ?_ GE931.out | refine below_set ?_ GE934.out | refine below_set ?_ GE938.out | refine below_set ?_ GE942.out | refine below_set ?_ GE946.out | refine below_set ?_ GE950.out) | exact HB.out)) hb); have n9_ := Aside0.mk (hbox); have n10_ := Aside0.mk ((by rw [hg]; exact (below_size (by repeat (first | (with_reducible first | exact HB.out | apply below_alloc | apply pw_below_drewN | apply below_drew1 | refine below_set ?_ GE924.out | refine below_set ?_ GE931.out | refine below_set ?_ GE934.out | refine below_set ?_ GE938.out | refine below_set ?_ GE942.out | refine below_set ?_ GE946.out | refine below_set ?_ GE950.out) | exact HB.out))) : w.heap.size ≤ gb958)); have n11_ := n10_; have n12_ := Aside0.mk ((by rw [hg]; exact Nat.ne_of_lt (blk_lt (g := gb924) (o := .cells #[.int .i64 t922, .int .u32 t923] 27 (0, 0)) (by (with_reducible repeat (first | refine blk_drewN ?_ _ | refine blk_drew ?_ | refine blk_alloc ?_ _)); exact BK924.out)) : gb924 ≠ gb958)); have n13_ := Aside0.mk (Ne.symm n12_.out); have n14_ := Aside0.mk ((by rw [hg]; exact Nat.ne_of_lt (blk_lt (g := gb931) (o := .cells #[.int .i64 t928, .int .u32 t929] 27 (0, 0)) (by (with_reducible repeat (first | refine blk_drewN ?_ _ | refine blk_drew ?_ | refine blk_alloc ?_ _)); exact BK931.out)) : gb931 ≠ gb958)); have n15_ := Aside0.mk (Ne.symm n14_.out); have n16_ := Aside0.mk ((by rw [hg]; exact Nat.ne_of_lt (blk_lt (g := gb934) (o := .cells #[.int .i64 t932, .int .u32 t933] 27 (0, 0)) (by (with_reducible repeat (first | refine blk_drewN ?_ _ | refine blk_drew ?_ | refine blk_alloc ?_ _)); exact BK934.out)) : gb934 ≠ gb958)); have n17_ := Aside0.mk (Ne.symm n16_.out); have n18_ := Aside0.mk ((by rw [hg]; exact Nat.ne_of_lt (blk_lt (g := gb938) (o := .cells #[.int .i64 t935, .int .u32 t936] 27 (0, 0)) (by (with_reducible repeat (first | refine blk_drewN ?_ _ | refine blk_drew ?_ | refine blk_alloc ?_ _)); exact BK938.out)) : gb938 ≠ gb958)); have n19_ := Aside0.mk (Ne.symm n18_.out); have n20_ := Aside0.mk ((by rw [hg]; exact Nat.ne_of_lt (blk_lt (g := gb942) (o := .cells #[.int .i64 t939, .int .u32 t940] 27 (0, 0)) (by (with_reducible repeat (first | refine blk_drewN ?_ _ | refine blk_drew ?_ | refine blk_alloc ?_ _)); exact BK942.out)) : gb942 ≠ gb958)); have n21_ := Aside0.mk (Ne.symm n20_.out); have n22_ := Aside0.mk ((by rw [hg]; exact Nat.ne_of_lt (blk_lt (g := gb946) (o := .cells #[.int .i64 t943, .int .u32 t944] 27 (0, 0)) (by (with_reducible repeat (first | refine blk_drewN ?_ _ | refine blk_drew ?_ | refine blk_alloc ?_ _)); exact BK946.out)) : gb946 ≠ gb958)); have n23_ := Aside0.mk (Ne.symm n22_.out); have n24_ := Aside0.mk ((by rw [hg]; exact Nat.ne_of_lt (blk_lt (g := gb950) (o := .cells #[.int .i64 t947, .int .u32 t948] 27 (0, 0)) (by (with_reducible repeat (first | refine blk_drewN ?_ _ | refine blk_drew ?_ | refine blk_alloc ?_ _)); exact BK950.out)) : gb950 ≠ gb958)); have n25_ := Aside0.mk (Ne.symm n24_.out); clear HO927; clear BK924; clear BK931; clear BK934; clear BK938; clear BK942; clear BK946; clear BK950; clear HB; have HO927 := n0_; have BK924 := n1_; have BK931 := n2_; have BK934 := n3_; have BK938 := n4_; have BK942 := n5_; have BK946 := n6_; have BK950 := n7_; have HB := n8_; have BK958 := n9_; have GW958 := n10_; have GE958 := n11_; have NB924_958 := n12_; have NB958_924 := n13_; have NB931_958 := n14_; have NB958_931 := n15_; have NB934_958 := n16_; have NB958_934 := n17_; have NB938_958 := n18_; have NB958_938 := n19_; have NB942_958 := n20_; have NB958_942 := n21_; have NB946_958 := n22_; have NB958_946 := n23_; have NB950_958 := n24_; have NB958_950 := n25_; clear n0_ n1_ n2_ n3_ n4_ n5_ n6_ n7_ n8_ n9_ n10_ n11_ n12_ n13_ n14_ n15_ n16_ n17_ n18_ n19_ n20_ n21_ n22_ n23_ n24_ n25_; clear hb hbox hg; have hnb79 := NB958_924.out; have hnc79 := NB924_958.out; have hnb80 := NB958_931.out; have hnc80 := NB931_958.out; have hnb81 := NB958_934.out; have hnc81 := NB934_958.out; have hnb82 := NB958_938.out; have hnc82 := NB938_958.out; have hnb83 := NB958_942.out; have hnc83 := NB942_958.out; have hnb84 := NB958_946.out; have hnc84 := NB946_958.out; have hnb85 := NB958_950.out; have hnc85 := NB950_958.out; have hcz86_0 : w78.cell? ⟨gb958, 0, none⟩ = some (.int .i64 0) := (blk_cell BK958.out 0).trans rfl; have hcz86_1 : w78.cell? ⟨gb958, 1, none⟩ = some (.int .u32 0) := (blk_cell BK958.out 1).trans rfl; have hfz86_0 := blk_frozen BK958.out 0; have hfz86_1 := blk_frozen BK958.out 1))
  (try simp only [Act.put, List.setIfInBounds_toArray, List.set_cons_zero, List.set_cons_succ])
  go_cut [149] (fun v149 wc => ∃ (kq : Nat) (x149_16 : Bool), v149 = .bool x149_16 ∧ Aside0 (laws_FnLeast.j0 kq t921 x149_16 t922 t923 t928 t929 t935 t936 = some true) ∧ Aside0 (kq ≤ k) ∧ Aside0 (wc.heap[gb924]? = some (.cells #[.int .i64 t922, .int .u32 t923] 27 (0, 0))) ∧ Aside0 (wc.heap[gb931]? = some (.cells #[.int .i64 t928, .int .u32 t929] 27 (0, 0))) ∧ Aside0 (wc.heap[gb934]? = some (.cells #[.int .i64 t932, .int .u32 t933] 27 (0, 0))) ∧ Aside0 (wc.heap[gb938]? = some (.cells #[.int .i64 t935, .int .u32 t936] 27 (0, 0))) ∧ Aside0 (wc.heap[gb942]? = some (.cells #[.int .i64 t939, .int .u32 t940] 27 (0, 0))) ∧ Aside0 (wc.heap[gb946]? = some (.cells #[.int .i64 t943, .int .u32 t944] 27 (0, 0))) ∧ Aside0 (wc.heap[gb950]? = some (.cells #[.int .i64 t947, .int .u32 t948] 27 (0, 0))) ∧ Aside0 (wc.heap[gb958]? = some (.cells #[.int .i64 t955, .int .u32 t956] 27 (0, 0))) ∧ Aside0 (Below w.heap.size w wc))
  case first =>
   have H := HC17.out
   clear HC17
   by_cases c87 : t930 = 0
   ·rw [if_pos c87] at H
    have c87b0 : (t930 == 0) = true := beq_iff_eq.mpr c87
    have c87b1 : (t930 != 0) = false := bne_eq_false_iff_eq.mpr c87
    clear c87
    (first | rw [c87b0] | (simp only [i64_w, i32_w]; rw [c87b0]) | skip)
    by_cases c88 : t937 = t957
    ·rw [if_pos c88] at H
     have c88b0 : (t937 == t957) = true := beq_iff_eq.mpr c88
     have c88b1 : (t937 != t957) = false := bne_eq_false_iff_eq.mpr c88
     clear c88
     by_cases c89 : (!(t935 == t955) || (!(t936 == t956))) = true
     ·rw [if_pos c89] at H
      exact absurd H (by apply laws_FnLeast.j0_no)
     ·rw [if_neg c89] at H
      have c89b0 : (!(t935 == t955) || (!(t936 == t956))) = false := by simpa using c89
      clear c89
      by_cases c105 : t941 = 0
      ·rw [if_pos c105] at H
       have c105b0 : (t941 == 0) = true := beq_iff_eq.mpr c105
       have c105b1 : (t941 != 0) = false := bne_eq_false_iff_eq.mpr c105
       clear c105
       by_cases c106 : (!(t939 == t935) || (!(t940 == t936))) = true
       ·rw [if_pos c106] at H
        exact absurd H (by apply laws_FnLeast.j0_no)
       ·rw [if_neg c106] at H
        have c106b0 : (!(t939 == t935) || (!(t940 == t936))) = false := by simpa using c106
        clear c106
        by_cases c128 : t945 = 0
        ·rw [if_pos c128] at H
         have c128b0 : (t945 == 0) = true := beq_iff_eq.mpr c128
         have c128b1 : (t945 != 0) = false := bne_eq_false_iff_eq.mpr c128
         clear c128
         by_cases c129 : t949 = 0
         ·rw [if_pos c129] at H
          have c129b0 : (t949 == 0) = true := beq_iff_eq.mpr c129
          have c129b1 : (t949 != 0) = false := bne_eq_false_iff_eq.mpr c129
          clear c129
          by_cases c130 : (!(t947 == t935) || (!(t948 == t936))) = true
          ·rw [if_pos c130] at H
           exact absurd H (by apply laws_FnLeast.j0_no)
          ·rw [if_neg c130] at H
           have c130b0 : (!(t947 == t935) || (!(t948 == t936))) = false := by simpa using c130
           clear c130
           by_cases c157 : t952 = 0
           ·rw [if_pos c157] at H
            have c157b0 : (t952 == 0) = true := beq_iff_eq.mpr c157
            have c157b1 : (t952 != 0) = false := bne_eq_false_iff_eq.mpr c157
            clear c157
            by_cases c158 : t951 = true
            ·subst c158
             have H1 : (if t954 = 0 then (if (t953 != (t935 == t943 && (t936 == t944))) = true then (laws_FnLeast.j0 k t921 true t922 t923 t928 t929 t935 t936) else (laws_FnLeast.j0 k t921 (decide (t936 > t923)) t922 t923 t928 t929 t935 t936)) else (laws_FnLeast.j0 k t921 true t922 t923 t928 t929 t935 t936)) = some true := by rw [if_pos rfl] at H; exact H
             clear H
             have H := H1
             clear H1
             by_cases c159 : t954 = 0
             ·rw [if_pos c159] at H
              have c159b0 : (t954 == 0) = true := beq_iff_eq.mpr c159
              have c159b1 : (t954 != 0) = false := bne_eq_false_iff_eq.mpr c159
              clear c159
              by_cases c160 : (t953 != (t935 == t943 && (t936 == t944))) = true
              ·rw [if_pos c160] at H
               exact absurd H (by apply laws_FnLeast.j0_no)
              ·rw [if_neg c160] at H
               have c160b0 : (t953 != (t935 == t943 && (t936 == t944))) = false := by simpa using c160
               (try (have c160b1 : decide (t953 = (t935 == t943 && (t936 == t944))) = true := by simpa using c160))
               (try (have c160b2 : (t953 == (t935 == t943 && (t936 == t944))) = true := by simpa using c160))
               clear c160
               have H' := Aside0.mk H
               clear H
               have hnb191 := NB938_924.out
               have hnc191 := NB924_938.out
               have hnb192 := NB938_931.out
               have hnc192 := NB931_938.out
               have hnb193 := NB938_934.out
               have hnc193 := NB934_938.out
               have hnb194 := NB938_942.out
               have hnc194 := NB942_938.out
               have hnb195 := NB938_946.out
               have hnc195 := NB946_938.out
               have hnb196 := NB938_950.out
               have hnc196 := NB950_938.out
               have hnb197 := NB938_958.out
               have hnc197 := NB958_938.out
               have hcz198_0 : w78.cell? ⟨gb938, 0, none⟩ = some (.int .i64 t935) := (blk_cell BK938.out 0).trans rfl
               have hcz198_1 : w78.cell? ⟨gb938, 1, none⟩ = some (.int .u32 t936) := (blk_cell BK938.out 1).trans rfl
               have hfz198_0 := blk_frozen BK938.out 0
               have hfz198_1 := blk_frozen BK938.out 1
               have hnb199 := NB958_924.out
               have hnc199 := NB924_958.out
               have hnb200 := NB958_931.out
               have hnc200 := NB931_958.out
               have hnb201 := NB958_934.out
               have hnc201 := NB934_958.out
               have hnb202 := NB958_942.out
               have hnc202 := NB942_958.out
               have hnb203 := NB958_946.out
               have hnc203 := NB946_958.out
               have hnb204 := NB958_950.out
               have hnc204 := NB950_958.out
               have hcz205_0 : w78.cell? ⟨gb958, 0, none⟩ = some (.int .i64 0) := (blk_cell BK958.out 0).trans rfl
               have hcz205_1 : w78.cell? ⟨gb958, 1, none⟩ = some (.int .u32 0) := (blk_cell BK958.out 1).trans rfl
               have hfz205_0 := blk_frozen BK958.out 0
               have hfz205_1 := blk_frozen BK958.out 1
               have hnb206 := NB942_924.out
               have hnc206 := NB924_942.out
               have hnb207 := NB942_931.out
               have hnc207 := NB931_942.out
               have hnb208 := NB942_934.out
               have hnc208 := NB934_942.out
               have hnb209 := NB942_946.out
               have hnc209 := NB946_942.out
               have hnb210 := NB942_950.out
               have hnc210 := NB950_942.out
               have hcz211_0 : w78.cell? ⟨gb942, 0, none⟩ = some (.int .i64 t939) := (blk_cell BK942.out 0).trans rfl
               have hcz211_1 : w78.cell? ⟨gb942, 1, none⟩ = some (.int .u32 t940) := (blk_cell BK942.out 1).trans rfl
               have hfz211_0 := blk_frozen BK942.out 0
               have hfz211_1 := blk_frozen BK942.out 1
               have hnb212 := NB950_924.out
               have hnc212 := NB924_950.out
               have hnb213 := NB950_931.out
               have hnc213 := NB931_950.out
               have hnb214 := NB950_934.out
               have hnc214 := NB934_950.out
               have hnb215 := NB950_946.out
               have hnc215 := NB946_950.out
               have hcz216_0 : w78.cell? ⟨gb950, 0, none⟩ = some (.int .i64 t947) := (blk_cell BK950.out 0).trans rfl
               have hcz216_1 : w78.cell? ⟨gb950, 1, none⟩ = some (.int .u32 t948) := (blk_cell BK950.out 1).trans rfl
               have hfz216_0 := blk_frozen BK950.out 0
               have hfz216_1 := blk_frozen BK950.out 1
               have hnb217 := NB946_924.out
               have hnc217 := NB924_946.out
               have hnb218 := NB946_931.out
               have hnc218 := NB931_946.out
               have hnb219 := NB946_934.out
               have hnc219 := NB934_946.out
               have hcz220_0 : w78.cell? ⟨gb946, 0, none⟩ = some (.int .i64 t943) := (blk_cell BK946.out 0).trans rfl
               have hcz220_1 : w78.cell? ⟨gb946, 1, none⟩ = some (.int .u32 t944) := (blk_cell BK946.out 1).trans rfl
               have hfz220_0 := blk_frozen BK946.out 0
               have hfz220_1 := blk_frozen BK946.out 1
               have hnb221 := NB924_931.out
               have hnc221 := NB931_924.out
               have hnb222 := NB924_934.out
               have hnc222 := NB934_924.out
               have hcz223_0 : w78.cell? ⟨gb924, 0, none⟩ = some (.int .i64 t922) := (blk_cell BK924.out 0).trans rfl
               have hcz223_1 : w78.cell? ⟨gb924, 1, none⟩ = some (.int .u32 t923) := (blk_cell BK924.out 1).trans rfl
               have hfz223_0 := blk_frozen BK924.out 0
               have hfz223_1 := blk_frozen BK924.out 1
               (try clear hcz20_0); (try clear hcz20_1); (try clear hfz20_0); (try clear hfz20_1); (try clear hcz34_0); (try clear hcz34_1); (try clear hcz36_0); (try clear hcz36_1); (try clear hcz42_0); (try clear hcz42_1); (try clear hcz43_0); (try clear hcz43_1); (try clear hcz50_0); (try clear hcz50_1); (try clear hcz51_0); (try clear hcz51_1); (try clear hcz59_0); (try clear hcz59_1); (try clear hcz60_0); (try clear hcz60_1); (try clear hcz69_0); (try clear hcz69_1); (try clear hcz70_0); (try clear hcz70_1); (try clear hcz71_0); (try clear hcz71_1); (try clear hcz73_0); (try clear hcz73_1); (try clear hcz74_0); (try clear hcz74_1); (try clear hcz76_0); (try clear hcz76_1); (try clear hfz34_0); (try clear hfz34_1); (try clear hfz36_0); (try clear hfz36_1); (try clear hfz42_0); (try clear hfz42_1); (try clear hfz43_0); (try clear hfz43_1); (try clear hfz50_0); (try clear hfz50_1); (try clear hfz51_0); (try clear hfz51_1); (try clear hfz59_0); (try clear hfz59_1); (try clear hfz60_0); (try clear hfz60_1); (try clear hfz69_0); (try clear hfz69_1); (try clear hfz70_0); (try clear hfz70_1); (try clear hfz71_0); (try clear hfz71_1); (try clear hfz73_0); (try clear hfz73_1); (try clear hfz74_0); (try clear hfz74_1); (try clear hfz76_0); (try clear hfz76_1); (try clear hnb32); (try clear hnc32); (try clear hnb33); (try clear hnc33); (try clear hnb35); (try clear hnc35); (try clear hnb39); (try clear hnc39); (try clear hnb40); (try clear hnc40); (try clear hnb41); (try clear hnc41); (try clear hnb46); (try clear hnc46); (try clear hnb47); (try clear hnc47); (try clear hnb48); (try clear hnc48); (try clear hnb49); (try clear hnc49); (try clear hnb54); (try clear hnc54); (try clear hnb55); (try clear hnc55); (try clear hnb56); (try clear hnc56); (try clear hnb57); (try clear hnc57); (try clear hnb58); (try clear hnc58); (try clear hnb63); (try clear hnc63); (try clear hnb64); (try clear hnc64); (try clear hnb65); (try clear hnc65); (try clear hnb66); (try clear hnc66); (try clear hnb67); (try clear hnc67); (try clear hnb68); (try clear hnc68); (try clear hnb191); (try clear hnc191); (try clear hnb192); (try clear hnc192); (try clear hnb193); (try clear hnc193); (try clear hnb194); (try clear hnc194); (try clear hnb195); (try clear hnc195); (try clear hnb196); (try clear hnc196); (try clear hnb206); (try clear hnc206); (try clear hnb207); (try clear hnc207); (try clear hnb208); (try clear hnc208); (try clear hnb209); (try clear hnc209); (try clear hnb210); (try clear hnc210); (try clear hnb212); (try clear hnc212); (try clear hnb213); (try clear hnc213); (try clear hnb214); (try clear hnc214); (try clear hnb215); (try clear hnc215); (try clear hnb217); (try clear hnc217); (try clear hnb218); (try clear hnc218); (try clear hnb219); (try clear hnc219); (try clear hnb221); (try clear hnc221); (try clear hnb222); (try clear hnc222)
               go_wp2
               go_meet
               case rel => exact ⟨_, (decide (t936 > t923)), (by first | rfl | (simp; done) | (simp [*]; done)), H', ⟨by first | omega | exact Nat.le_refl _⟩, ⟨by (with_reducible repeat (first | refine blk_drewN ?_ _ | refine blk_drew ?_ | refine blk_alloc ?_ _)); refine blk_far ?_ NB924_958.out _; (with_reducible repeat (first | refine blk_drewN ?_ _ | refine blk_drew ?_ | refine blk_alloc ?_ _)); refine blk_far ?_ NB924_958.out _; (with_reducible repeat (first | refine blk_drewN ?_ _ | refine blk_drew ?_ | refine blk_alloc ?_ _)); exact BK924.out⟩, ⟨by (with_reducible repeat (first | refine blk_drewN ?_ _ | refine blk_drew ?_ | refine blk_alloc ?_ _)); refine blk_far ?_ NB931_958.out _; (with_reducible repeat (first | refine blk_drewN ?_ _ | refine blk_drew ?_ | refine blk_alloc ?_ _)); refine blk_far ?_ NB931_958.out _; (with_reducible repeat (first | refine blk_drewN ?_ _ | refine blk_drew ?_ | refine blk_alloc ?_ _)); exact BK931.out⟩, ⟨by (with_reducible repeat (first | refine blk_drewN ?_ _ | refine blk_drew ?_ | refine blk_alloc ?_ _)); refine blk_far ?_ NB934_958.out _; (with_reducible repeat (first | refine blk_drewN ?_ _ | refine blk_drew ?_ | refine blk_alloc ?_ _)); refine blk_far ?_ NB934_958.out _; (with_reducible repeat (first | refine blk_drewN ?_ _ | refine blk_drew ?_ | refine blk_alloc ?_ _)); exact BK934.out⟩, ⟨by (with_reducible repeat (first | refine blk_drewN ?_ _ | refine blk_drew ?_ | refine blk_alloc ?_ _)); refine blk_far ?_ NB938_958.out _; (with_reducible repeat (first | refine blk_drewN ?_ _ | refine blk_drew ?_ | refine blk_alloc ?_ _)); refine blk_far ?_ NB938_958.out _; (with_reducible repeat (first | refine blk_drewN ?_ _ | refine blk_drew ?_ | refine blk_alloc ?_ _)); exact BK938.out⟩, ⟨by (with_reducible repeat (first | refine blk_drewN ?_ _ | refine blk_drew ?_ | refine blk_alloc ?_ _)); refine blk_far ?_ NB942_958.out _; (with_reducible repeat (first | refine blk_drewN ?_ _ | refine blk_drew ?_ | refine blk_alloc ?_ _)); refine blk_far ?_ NB942_958.out _; (with_reducible repeat (first | refine blk_drewN ?_ _ | refine blk_drew ?_ | refine blk_alloc ?_ _)); exact BK942.out⟩, ⟨by (with_reducible repeat (first | refine blk_drewN ?_ _ | refine blk_drew ?_ | refine blk_alloc ?_ _)); refine blk_far ?_ NB946_958.out _; (with_reducible repeat (first | refine blk_drewN ?_ _ | refine blk_drew ?_ | refine blk_alloc ?_ _)); refine blk_far ?_ NB946_958.out _; (with_reducible repeat (first | refine blk_drewN ?_ _ | refine blk_drew ?_ | refine blk_alloc ?_ _)); exact BK946.out⟩, ⟨by (with_reducible repeat (first | refine blk_drewN ?_ _ | refine blk_drew ?_ | refine blk_alloc ?_ _)); refine blk_far ?_ NB950_958.out _; (with_reducible repeat (first | refine blk_drewN ?_ _ | refine blk_drew ?_ | refine blk_alloc ?_ _)); refine blk_far ?_ NB950_958.out _; (with_reducible repeat (first | refine blk_drewN ?_ _ | refine blk_drew ?_ | refine blk_alloc ?_ _)); exact BK950.out⟩, ⟨by (with_reducible repeat (first | refine blk_drewN ?_ _ | refine blk_drew ?_ | refine blk_alloc ?_ _)); refine blk_put (cs := #[.int .i64 t955, .int .u32 0]) ?_ 1 _ rfl; (with_reducible repeat (first | refine blk_drewN ?_ _ | refine blk_drew ?_ | refine blk_alloc ?_ _)); refine blk_put (cs := #[.int .i64 0, .int .u32 0]) ?_ 0 _ rfl; (with_reducible repeat (first | refine blk_drewN ?_ _ | refine blk_drew ?_ | refine blk_alloc ?_ _)); exact BK958.out⟩, ⟨by repeat (first | (with_reducible first | exact HB.out | apply below_alloc | apply pw_below_drewN | apply below_drew1 | refine below_set ?_ GE924.out | refine below_set ?_ GE931.out | refine below_set ?_ GE934.out | refine below_set ?_ GE938.out | refine below_set ?_ GE942.out | refine below_set ?_ GE946.out | refine below_set ?_ GE950.out | refine below_set ?_ GE958.out) | exact HB.out)⟩⟩
             ·rw [if_neg c159] at H
              exact absurd H (by apply laws_FnLeast.j0_no)
            ·replace c158 := Bool.eq_false_iff.mpr c158
             subst c158
             have H1 : (laws_FnLeast.j0 k t921 true t922 t923 t928 t929 t935 t936) = some true := by rw [if_neg (show ¬ (false = true) by decide)] at H; exact H
             clear H
             have H := H1
             clear H1
             exact absurd H (by apply laws_FnLeast.j0_no)
           ·rw [if_neg c157] at H
            exact absurd H (by apply laws_FnLeast.j0_no)
         ·rw [if_neg c129] at H
          exact absurd H (by apply laws_FnLeast.j0_no)
        ·rw [if_neg c128] at H
         exact absurd H (by apply laws_FnLeast.j0_no)
      ·rw [if_neg c105] at H
       exact absurd H (by apply laws_FnLeast.j0_no)
    ·rw [if_neg c88] at H
     exact absurd H (by apply laws_FnLeast.j0_no)
   ·rw [if_neg c87] at H
    exact absurd H (by apply laws_FnLeast.j0_no)
  case rest =>
   clear HC17
   try clear c1
   try clear c2
   try clear p2
   try clear c3
   try clear c8
   try clear c10
   try clear c12
   try clear c13
   try clear c14
   try clear c15
   try clear c16
   try clear c17
   try clear c18
   try clear c19
   try clear c20
   try clear c21
   try clear c22
   try clear c23
   try clear c24
   try clear c25
   try clear c26
   try clear c27
   try clear c28
   try clear c29
   try clear c30
   try clear c31
   try clear c32
   try clear c33
   try clear c34
   try clear c35
   try clear c87
   try clear c87b0
   try clear c87b1
   try clear c88
   try clear c88b0
   try clear c88b1
   try clear c105
   try clear c105b0
   try clear c105b1
   try clear c128
   try clear c128b0
   try clear c128b1
   try clear c129
   try clear c129b0
   try clear c129b1
   try clear c130
   try clear c130b0
   try clear c146
   try clear c147
   try clear c148
   try clear c149
   try clear c150
   try clear c152
   try clear c153
   try clear c154
   try clear c155
   try clear c157
   try clear c157b0
   try clear c157b1
   try clear c158
   try clear c159
   try clear c159b0
   try clear c159b1
   try clear c160
   try clear c160b0
   try clear c160b1
   try clear c160b2
   try clear c161
   try clear c162
   try clear c163
   try clear c164
   try clear c165
   try clear c166
   try clear c167
   try clear c169
   try clear c170
   try clear c171
   try clear c172
   try clear c173
   try clear c174
   try clear c176
   try clear c177
   try clear c178
   try clear c179
   try clear c180
   try clear c182
   try clear c183
   try clear c184
   try clear c185
   try clear c187
   try clear c188
   try clear c189
   try clear c191
   try clear c192
   try clear c193
   try clear c194
   try clear c195
   try clear c196
   try clear c197
   try clear c199
   try clear c200
   try clear c201
   try clear c202
   try clear c203
   try clear c204
   try clear c206
   try clear c207
   try clear c208
   try clear c209
   try clear c210
   try clear c212
   try clear c213
   try clear c214
   try clear c215
   try clear c217
   try clear c218
   try clear c219
   try clear c221
   try clear c222
   try clear c224
   try clear c225
   try clear c226
   try clear c227
   try clear c228
   try clear c229
   try clear c230
   try clear c232
   try clear c233
   try clear c234
   try clear c235
   try clear c236
   try clear c237
   try clear c239
   try clear c240
   try clear c241
   try clear c242
   try clear c243
   try clear c245
   try clear c246
   try clear c247
   try clear c248
   try clear c250
   try clear c251
   try clear c252
   try clear c253
   try clear c254
   try clear c255
   try clear c256
   try clear c258
   try clear c259
   try clear c260
   try clear c261
   try clear c262
   try clear c263
   try clear c265
   try clear c266
   try clear c267
   try clear c268
   try clear c269
   try clear c271
   try clear c272
   try clear c273
   try clear c274
   try clear c276
   try clear c277
   try clear c278
   try clear c279
   try clear c280
   try clear c281
   try clear c282
   try clear c284
   try clear c285
   try clear c286
   try clear c287
   try clear c288
   try clear c289
   try clear c291
   try clear c292
   try clear c293
   try clear c294
   try clear c295
   try clear c297
   try clear c298
   try clear c299
   try clear c300
   try clear c302
   try clear c303
   try clear c304
   try clear c305
   try clear c306
   try clear c307
   try clear c308
   try clear c310
   try clear c311
   try clear c312
   try clear c313
   try clear c314
   try clear c315
   try clear c317
   try clear c318
   try clear c319
   try clear c320
   try clear c321
   try clear c323
   try clear c324
   try clear c325
   try clear c326
   try clear c327
   try clear c328
   try clear c329
   try clear c331
   try clear c332
   try clear c333
   try clear c334
   try clear c335
   try clear c336
   try clear c338
   try clear c339
   try clear c340
   try clear c341
   try clear c342
   try clear c344
   try clear c345
   try clear c346
   try clear c347
   try clear c348
   try clear c349
   try clear c350
   try clear c352
   try clear c353
   try clear c354
   try clear c355
   try clear c356
   try clear c357
   try clear hcz151_0
   try clear hcz151_1
   try clear hcz156_0
   try clear hcz156_1
   try clear hcz168_0
   try clear hcz168_1
   try clear hcz175_0
   try clear hcz175_1
   try clear hcz181_0
   try clear hcz181_1
   try clear hcz186_0
   try clear hcz186_1
   try clear hcz190_0
   try clear hcz190_1
   try clear hcz198_0
   try clear hcz198_1
   try clear hcz205_0
   try clear hcz205_1
   try clear hcz211_0
   try clear hcz211_1
   try clear hcz216_0
   try clear hcz216_1
   try clear hcz220_0
   try clear hcz220_1
   try clear hcz223_0
   try clear hcz223_1
   try clear hcz231_0
   try clear hcz231_1
   try clear hcz238_0
   try clear hcz238_1
   try clear hcz244_0
   try clear hcz244_1
   try clear hcz249_0
   try clear hcz249_1
   try clear hcz257_0
   try clear hcz257_1
   try clear hcz264_0
   try clear hcz264_1
   try clear hcz270_0
   try clear hcz270_1
   try clear hcz275_0
   try clear hcz275_1
   try clear hcz283_0
   try clear hcz283_1
   try clear hcz290_0
   try clear hcz290_1
   try clear hcz296_0
   try clear hcz296_1
   try clear hcz301_0
   try clear hcz301_1
   try clear hcz309_0
   try clear hcz309_1
   try clear hcz316_0
   try clear hcz316_1
   try clear hcz322_0
   try clear hcz322_1
   try clear hcz330_0
   try clear hcz330_1
   try clear hcz337_0
   try clear hcz337_1
   try clear hcz343_0
   try clear hcz343_1
   try clear hcz351_0
   try clear hcz351_1
   try clear hcz358_0
   try clear hcz358_1
   try clear hfz145_0
   try clear hfz145_1
   try clear hfz151_0
   try clear hfz151_1
   try clear hfz156_0
   try clear hfz156_1
   try clear hfz168_0
   try clear hfz168_1
   try clear hfz175_0
   try clear hfz175_1
   try clear hfz181_0
   try clear hfz181_1
   try clear hfz186_0
   try clear hfz186_1
   try clear hfz190_0
   try clear hfz190_1
   try clear hfz198_0
   try clear hfz198_1
   try clear hfz205_0
   try clear hfz205_1
   try clear hfz211_0
   try clear hfz211_1
   try clear hfz216_0
   try clear hfz216_1
   try clear hfz220_0
   try clear hfz220_1
   try clear hfz223_0
   try clear hfz223_1
   try clear hfz231_0
   try clear hfz231_1
   try clear hfz238_0
   try clear hfz238_1
   try clear hfz244_0
   try clear hfz244_1
   try clear hfz249_0
   try clear hfz249_1
   try clear hfz257_0
   try clear hfz257_1
   try clear hfz264_0
   try clear hfz264_1
   try clear hfz270_0
   try clear hfz270_1
   try clear hfz275_0
   try clear hfz275_1
   try clear hfz283_0
   try clear hfz283_1
   try clear hfz290_0
   try clear hfz290_1
   try clear hfz296_0
   try clear hfz296_1
   try clear hfz301_0
   try clear hfz301_1
   try clear hfz309_0
   try clear hfz309_1
   try clear hfz316_0
   try clear hfz316_1
   try clear hfz322_0
   try clear hfz322_1
   try clear hfz330_0
   try clear hfz330_1
   try clear hfz337_0
   try clear hfz337_1
   try clear hfz343_0
   try clear hfz343_1
   try clear hfz351_0
   try clear hfz351_1
   try clear hfz358_0
   try clear hfz358_1
   obtain ⟨kq, x149_16, rfl, HA, HJ16, BK924, BK931, BK934, BK938, BK942, BK946, BK950, BK958, HB⟩ := hcut
   cases kq with
   | zero => exact absurd HA.out (by simp [laws_FnLeast.j0])
   | succ kj16 =>
    have H := HA.out
    clear HA
    simp only [laws_FnLeast.j0] at H
    by_cases c359 : x149_16 = true
    ·subst c359
     have H1 : (some false) = some true := by rw [if_pos rfl] at H; exact H
     clear H
     have H := H1
     clear H1
     exact absurd H (by simp)
    ·replace c359 := Bool.eq_false_iff.mpr c359
     subst c359
     have H1 : ((impl_IndexOfGraph.f kj16 t928 t929).bind fun bt959 => ((impl_CountSelf.f t922 t923).bind fun bt961 => ((impl_CountSelf.f t928 t929).bind fun bt963 => (if bt959.2 = 0 then (if bt961.2 = 0 then (if bt963.2 = 0 then (if bt961.1 = bt963.1 then (laws_FnLeast.j1 kj16 t921 bt959.1 (decide (bt961.1 < 1)) t935 t936) else (laws_FnLeast.j1 kj16 t921 bt959.1 true t935 t936)) else (laws_FnLeast.j1 kj16 t921 bt959.1 true t935 t936)) else (laws_FnLeast.j1 kj16 t921 bt959.1 true t935 t936)) else (laws_FnLeast.j1 kj16 t921 bt959.1 true t935 t936))))) = some true := by rw [if_neg (show ¬ (false = true) by decide)] at H; exact H
     clear H
     have H := H1
     clear H1
     replace H := Option.bind_eq_some_iff.mp H
     obtain ⟨⟨t959, t960⟩, A3600, H⟩ := H
     replace H : ((impl_CountSelf.f t922 t923).bind fun bt961 => ((impl_CountSelf.f t928 t929).bind fun bt963 => (if t960 = 0 then (if bt961.2 = 0 then (if bt963.2 = 0 then (if bt961.1 = bt963.1 then (laws_FnLeast.j1 kj16 t921 t959 (decide (bt961.1 < 1)) t935 t936) else (laws_FnLeast.j1 kj16 t921 t959 true t935 t936)) else (laws_FnLeast.j1 kj16 t921 t959 true t935 t936)) else (laws_FnLeast.j1 kj16 t921 t959 true t935 t936)) else (laws_FnLeast.j1 kj16 t921 t959 true t935 t936)))) = some true := H
     have A360 := Aside0.mk A3600
     clear A3600
     replace H := Option.bind_eq_some_iff.mp H
     obtain ⟨⟨t961, t962⟩, A3610, H⟩ := H
     replace H : ((impl_CountSelf.f t928 t929).bind fun bt963 => (if t960 = 0 then (if t962 = 0 then (if bt963.2 = 0 then (if t961 = bt963.1 then (laws_FnLeast.j1 kj16 t921 t959 (decide (t961 < 1)) t935 t936) else (laws_FnLeast.j1 kj16 t921 t959 true t935 t936)) else (laws_FnLeast.j1 kj16 t921 t959 true t935 t936)) else (laws_FnLeast.j1 kj16 t921 t959 true t935 t936)) else (laws_FnLeast.j1 kj16 t921 t959 true t935 t936))) = some true := H
     have A361 := Aside0.mk A3610
     clear A3610
     replace H := Option.bind_eq_some_iff.mp H
     obtain ⟨⟨t963, t964⟩, A3620, H⟩ := H
     replace H : (if t960 = 0 then (if t962 = 0 then (if t964 = 0 then (if t961 = t963 then (laws_FnLeast.j1 kj16 t921 t959 (decide (t961 < 1)) t935 t936) else (laws_FnLeast.j1 kj16 t921 t959 true t935 t936)) else (laws_FnLeast.j1 kj16 t921 t959 true t935 t936)) else (laws_FnLeast.j1 kj16 t921 t959 true t935 t936)) else (laws_FnLeast.j1 kj16 t921 t959 true t935 t936)) = some true := H
     have A362 := Aside0.mk A3620
     clear A3620
     have HC363 := Aside0.mk H
     clear H
     have hnb364 := NB931_924.out
     have hnc364 := NB924_931.out
     have hnb365 := NB931_934.out
     have hnc365 := NB934_931.out
     have hnb366 := NB931_938.out
     have hnc366 := NB938_931.out
     have hnb367 := NB931_942.out
     have hnc367 := NB942_931.out
     have hnb368 := NB931_946.out
     have hnc368 := NB946_931.out
     have hnb369 := NB931_950.out
     have hnc369 := NB950_931.out
     have hnb370 := NB931_958.out
     have hnc370 := NB958_931.out
     have hcz371_0 : wc.cell? ⟨gb931, 0, none⟩ = some (.int .i64 t928) := (blk_cell BK931.out 0).trans rfl
     have hcz371_1 : wc.cell? ⟨gb931, 1, none⟩ = some (.int .u32 t929) := (blk_cell BK931.out 1).trans rfl
     have hfz371_0 := blk_frozen BK931.out 0
     have hfz371_1 := blk_frozen BK931.out 1
     go_upto_region 19 with (first | ((with_reducible refine gate_callee (f := 43) rfl ?_); refine goesL_ (some 152) rfl rfl Try.func43 (by kernel_rfl) rfl #[.agg #[.int .i64 t928, .int .u32 t929]] rfl (by (try simp only [List.map_toArray, List.map_cons, List.map_nil]); first | done | rfl | (simp only [List.length_drop, List.length_take]; rfl)) ?_; (with_reducible refine (impl_IndexOfGraph.calls kj16 t928 t929 t959 t960 _ A360.out).mono ?_); rintro e w372 ⟨rfl, hb⟩; refine ⟨_, rfl, ?_⟩; have n0_ := Aside0.mk (blk_below (g := gb924) (o := .cells #[.int .i64 t922, .int .u32 t923] 27 (0, 0)) (by (with_reducible repeat (first | refine blk_drewN ?_ _ | refine blk_drew ?_ | refine blk_alloc ?_ _)); exact BK924.out) hb); have n1_ := Aside0.mk (blk_below (g := gb931) (o := .cells #[.int .i64 t928, .int .u32 t929] 27 (0, 0)) (by (with_reducible repeat (first | refine blk_drewN ?_ _ | refine blk_drew ?_ | refine blk_alloc ?_ _)); exact BK931.out) hb); have n2_ := Aside0.mk (blk_below (g := gb934) (o := .cells #[.int .i64 t932, .int .u32 t933] 27 (0, 0)) (by (with_reducible repeat (first | refine blk_drewN ?_ _ | refine blk_drew ?_ | refine blk_alloc ?_ _)); exact BK934.out) hb); have n3_ := Aside0.mk (blk_below (g := gb938) (o := .cells #[.int .i64 t935, .int .u32 t936] 27 (0, 0)) (by (with_reducible repeat (first | refine blk_drewN ?_ _ | refine blk_drew ?_ | refine blk_alloc ?_ _)); exact BK938.out) hb); have n4_ := Aside0.mk (blk_below (g := gb942) (o := .cells #[.int .i64 t939, .int .u32 t940] 27 (0, 0)) (by (with_reducible repeat (first | refine blk_drewN ?_ _ | refine blk_drew ?_ | refine blk_alloc ?_ _)); exact BK942.out) hb); have n5_ := Aside0.mk (blk_below (g := gb946) (o := .cells #[.int .i64 t943, .int .u32 t944] 27 (0, 0)) (by (with_reducible repeat (first | refine blk_drewN ?_ _ | refine blk_drew ?_ | refine blk_alloc ?_ _)); exact BK946.out) hb); have n6_ := Aside0.mk (blk_below (g := gb950) (o := .cells #[.int .i64 t947, .int .u32 t948] 27 (0, 0)) (by (with_reducible repeat (first | refine blk_drewN ?_ _ | refine blk_drew ?_ | refine blk_alloc ?_ _)); exact BK950.out) hb); have n7_ := Aside0.mk (blk_below (g := gb958) (o := .cells #[.int .i64 t955, .int .u32 t956] 27 (0, 0)) (by (with_reducible repeat (first | refine blk_drewN ?_ _ | refine blk_drew ?_ | refine blk_alloc ?_ _)); exact BK958.out) hb); have n8_ := Aside0.mk (below_step (by repeat (first | (with_reducible first | exact HB.out | apply below_alloc | apply pw_below_drewN | apply below_drew1 | refine below_set ?_ GE924.out | refine below_set ?_ GE931.out | refine below_set ?_ GE934.out | refine below_set ?_ GE938.out | refine below_set ?_ GE942.out | refine below_set ?_ GE946.out | refine below_set ?_ GE950.out | refine below_set ?_ GE958.out) | exact HB.out)) hb); clear BK924; clear BK931; clear BK934; clear BK938; clear BK942; clear BK946; clear BK950; clear BK958; clear HB; have BK924 := n0_; have BK931 := n1_; have BK934 := n2_; have BK938 := n3_; have BK942 := n4_; have BK946 := n5_; have BK950 := n6_; have BK958 := n7_; have HB := n8_; clear n0_ n1_ n2_ n3_ n4_ n5_ n6_ n7_ n8_; (try clear hb); (try clear hb2); (try clear hk); (try clear hi); have hnb373 := NB924_934.out; have hnc373 := NB934_924.out; have hnb374 := NB924_938.out; have hnc374 := NB938_924.out; have hnb375 := NB924_942.out; have hnc375 := NB942_924.out; have hnb376 := NB924_946.out; have hnc376 := NB946_924.out; have hnb377 := NB924_950.out; have hnc377 := NB950_924.out; have hnb378 := NB924_958.out; have hnc378 := NB958_924.out; have hcz379_0 : w372.cell? ⟨gb924, 0, none⟩ = some (.int .i64 t922) := (blk_cell BK924.out 0).trans rfl; have hcz379_1 : w372.cell? ⟨gb924, 1, none⟩ = some (.int .u32 t923) := (blk_cell BK924.out 1).trans rfl; have hfz379_0 := blk_frozen BK924.out 0; have hfz379_1 := blk_frozen BK924.out 1) | ((with_reducible refine gate_callee (f := 44) rfl ?_); refine goesL_ (some 157) rfl rfl Try.func44 (by kernel_rfl) rfl #[.agg #[.int .i64 t922, .int .u32 t923]] rfl (by (try simp only [List.map_toArray, List.map_cons, List.map_nil]); first | done | rfl | (simp only [List.length_drop, List.length_take]; rfl)) ?_; (with_reducible refine (impl_CountSelf.calls t922 t923 t961 t962 _ A361.out).mono ?_); rintro e w380 ⟨rfl, hb⟩; refine ⟨_, rfl, ?_⟩; have n0_ := Aside0.mk (blk_below (g := gb924) (o := .cells #[.int .i64 t922, .int .u32 t923] 27 (0, 0)) (by (with_reducible repeat (first | refine blk_drewN ?_ _ | refine blk_drew ?_ | refine blk_alloc ?_ _)); exact BK924.out) hb); have n1_ := Aside0.mk (blk_below (g := gb931) (o := .cells #[.int .i64 t928, .int .u32 t929] 27 (0, 0)) (by (with_reducible repeat (first | refine blk_drewN ?_ _ | refine blk_drew ?_ | refine blk_alloc ?_ _)); exact BK931.out) hb); have n2_ := Aside0.mk (blk_below (g := gb934) (o := .cells #[.int .i64 t932, .int .u32 t933] 27 (0, 0)) (by (with_reducible repeat (first | refine blk_drewN ?_ _ | refine blk_drew ?_ | refine blk_alloc ?_ _)); exact BK934.out) hb); have n3_ := Aside0.mk (blk_below (g := gb938) (o := .cells #[.int .i64 t935, .int .u32 t936] 27 (0, 0)) (by (with_reducible repeat (first | refine blk_drewN ?_ _ | refine blk_drew ?_ | refine blk_alloc ?_ _)); exact BK938.out) hb); have n4_ := Aside0.mk (blk_below (g := gb942) (o := .cells #[.int .i64 t939, .int .u32 t940] 27 (0, 0)) (by (with_reducible repeat (first | refine blk_drewN ?_ _ | refine blk_drew ?_ | refine blk_alloc ?_ _)); exact BK942.out) hb); have n5_ := Aside0.mk (blk_below (g := gb946) (o := .cells #[.int .i64 t943, .int .u32 t944] 27 (0, 0)) (by (with_reducible repeat (first | refine blk_drewN ?_ _ | refine blk_drew ?_ | refine blk_alloc ?_ _)); exact BK946.out) hb); have n6_ := Aside0.mk (blk_below (g := gb950) (o := .cells #[.int .i64 t947, .int .u32 t948] 27 (0, 0)) (by (with_reducible repeat (first | refine blk_drewN ?_ _ | refine blk_drew ?_ | refine blk_alloc ?_ _)); exact BK950.out) hb); have n7_ := Aside0.mk (blk_below (g := gb958) (o := .cells #[.int .i64 t955, .int .u32 t956] 27 (0, 0)) (by (with_reducible repeat (first | refine blk_drewN ?_ _ | refine blk_drew ?_ | refine blk_alloc ?_ _)); exact BK958.out) hb); have n8_ := Aside0.mk (below_step (by repeat (first | (with_reducible first | exact HB.out | apply below_alloc | apply pw_below_drewN | apply below_drew1 | refine below_set ?_ GE924.out | refine below_set ?_ GE931.out | refine below_set ?_ GE934.out | refine below_set ?_ GE938.out | refine below_set ?_ GE942.out | refine below_set ?_ GE946.out | refine below_set ?_ GE950.out | refine below_set ?_ GE958.out) | exact HB.out)) hb); clear BK924; clear BK931; clear BK934; clear BK938; clear BK942; clear BK946; clear BK950; clear BK958; clear HB; have BK924 := n0_; have BK931 := n1_; have BK934 := n2_; have BK938 := n3_; have BK942 := n4_; have BK946 := n5_; have BK950 := n6_; have BK958 := n7_; have HB := n8_; clear n0_ n1_ n2_ n3_ n4_ n5_ n6_ n7_ n8_; (try clear hb); (try clear hb2); (try clear hk); (try clear hi); have hcz381_0 : w380.cell? ⟨gb931, 0, none⟩ = some (.int .i64 t928) := (blk_cell BK931.out 0).trans rfl; have hcz381_1 : w380.cell? ⟨gb931, 1, none⟩ = some (.int .u32 t929) := (blk_cell BK931.out 1).trans rfl; have hfz381_0 := blk_frozen BK931.out 0; have hfz381_1 := blk_frozen BK931.out 1) | ((with_reducible refine gate_callee (f := 44) rfl ?_); refine goesL_ (some 162) rfl rfl Try.func44 (by kernel_rfl) rfl #[.agg #[.int .i64 t928, .int .u32 t929]] rfl (by (try simp only [List.map_toArray, List.map_cons, List.map_nil]); first | done | rfl | (simp only [List.length_drop, List.length_take]; rfl)) ?_; (with_reducible refine (impl_CountSelf.calls t928 t929 t963 t964 _ A362.out).mono ?_); rintro e w382 ⟨rfl, hb⟩; refine ⟨_, rfl, ?_⟩; have n0_ := Aside0.mk (blk_below (g := gb924) (o := .cells #[.int .i64 t922, .int .u32 t923] 27 (0, 0)) (by (with_reducible repeat (first | refine blk_drewN ?_ _ | refine blk_drew ?_ | refine blk_alloc ?_ _)); exact BK924.out) hb); have n1_ := Aside0.mk (blk_below (g := gb931) (o := .cells #[.int .i64 t928, .int .u32 t929] 27 (0, 0)) (by (with_reducible repeat (first | refine blk_drewN ?_ _ | refine blk_drew ?_ | refine blk_alloc ?_ _)); exact BK931.out) hb); have n2_ := Aside0.mk (blk_below (g := gb934) (o := .cells #[.int .i64 t932, .int .u32 t933] 27 (0, 0)) (by (with_reducible repeat (first | refine blk_drewN ?_ _ | refine blk_drew ?_ | refine blk_alloc ?_ _)); exact BK934.out) hb); have n3_ := Aside0.mk (blk_below (g := gb938) (o := .cells #[.int .i64 t935, .int .u32 t936] 27 (0, 0)) (by (with_reducible repeat (first | refine blk_drewN ?_ _ | refine blk_drew ?_ | refine blk_alloc ?_ _)); exact BK938.out) hb); have n4_ := Aside0.mk (blk_below (g := gb942) (o := .cells #[.int .i64 t939, .int .u32 t940] 27 (0, 0)) (by (with_reducible repeat (first | refine blk_drewN ?_ _ | refine blk_drew ?_ | refine blk_alloc ?_ _)); exact BK942.out) hb); have n5_ := Aside0.mk (blk_below (g := gb946) (o := .cells #[.int .i64 t943, .int .u32 t944] 27 (0, 0)) (by (with_reducible repeat (first | refine blk_drewN ?_ _ | refine blk_drew ?_ | refine blk_alloc ?_ _)); exact BK946.out) hb); have n6_ := Aside0.mk (blk_below (g := gb950) (o := .cells #[.int .i64 t947, .int .u32 t948] 27 (0, 0)) (by (with_reducible repeat (first | refine blk_drewN ?_ _ | refine blk_drew ?_ | refine blk_alloc ?_ _)); exact BK950.out) hb); have n7_ := Aside0.mk (blk_below (g := gb958) (o := .cells #[.int .i64 t955, .int .u32 t956] 27 (0, 0)) (by (with_reducible repeat (first | refine blk_drewN ?_ _ | refine blk_drew ?_ | refine blk_alloc ?_ _)); exact BK958.out) hb); have n8_ := Aside0.mk (below_step (by repeat (first | (with_reducible first | exact HB.out | apply below_alloc | apply pw_below_drewN | apply below_drew1 | refine below_set ?_ GE924.out | refine below_set ?_ GE931.out | refine below_set ?_ GE934.out | refine below_set ?_ GE938.out | refine below_set ?_ GE942.out | refine below_set ?_ GE946.out | refine below_set ?_ GE950.out | refine below_set ?_ GE958.out) | exact HB.out)) hb); clear BK924; clear BK931; clear BK934; clear BK938; clear BK942; clear BK946; clear BK950; clear BK958; clear HB; have BK924 := n0_; have BK931 := n1_; have BK934 := n2_; have BK938 := n3_; have BK942 := n4_; have BK946 := n5_; have BK950 := n6_; have BK958 := n7_; have HB := n8_; clear n0_ n1_ n2_ n3_ n4_ n5_ n6_ n7_ n8_; (try clear hb); (try clear hb2); (try clear hk); (try clear hi)))
     (try simp only [Act.put, List.setIfInBounds_toArray, List.set_cons_zero, List.set_cons_succ])
     go_cut [183] (fun v183 wc => ∃ (kq : Nat) (x183_362 : Bool), v183 = .bool x183_362 ∧ Aside0 (laws_FnLeast.j1 kq t921 t959 x183_362 t935 t936 = some true) ∧ Aside0 (kq ≤ kj16) ∧ Aside0 (wc.heap[gb924]? = some (.cells #[.int .i64 t922, .int .u32 t923] 27 (0, 0))) ∧ Aside0 (wc.heap[gb931]? = some (.cells #[.int .i64 t928, .int .u32 t929] 27 (0, 0))) ∧ Aside0 (wc.heap[gb934]? = some (.cells #[.int .i64 t932, .int .u32 t933] 27 (0, 0))) ∧ Aside0 (wc.heap[gb938]? = some (.cells #[.int .i64 t935, .int .u32 t936] 27 (0, 0))) ∧ Aside0 (wc.heap[gb942]? = some (.cells #[.int .i64 t939, .int .u32 t940] 27 (0, 0))) ∧ Aside0 (wc.heap[gb946]? = some (.cells #[.int .i64 t943, .int .u32 t944] 27 (0, 0))) ∧ Aside0 (wc.heap[gb950]? = some (.cells #[.int .i64 t947, .int .u32 t948] 27 (0, 0))) ∧ Aside0 (wc.heap[gb958]? = some (.cells #[.int .i64 t955, .int .u32 t956] 27 (0, 0))) ∧ Aside0 (Below w.heap.size w wc))
     case first =>
      have H := HC363.out
      clear HC363
      by_cases c383 : t960 = 0
      ·rw [if_pos c383] at H
       have c383b0 : (t960 == 0) = true := beq_iff_eq.mpr c383
       have c383b1 : (t960 != 0) = false := bne_eq_false_iff_eq.mpr c383
       clear c383
       (first | rw [c383b0] | (simp only [i64_w, i32_w]; rw [c383b0]) | skip)
       by_cases c384 : t962 = 0
       ·rw [if_pos c384] at H
        have c384b0 : (t962 == 0) = true := beq_iff_eq.mpr c384
        have c384b1 : (t962 != 0) = false := bne_eq_false_iff_eq.mpr c384
        clear c384
        by_cases c385 : t964 = 0
        ·rw [if_pos c385] at H
         have c385b0 : (t964 == 0) = true := beq_iff_eq.mpr c385
         have c385b1 : (t964 != 0) = false := bne_eq_false_iff_eq.mpr c385
         clear c385
         by_cases c386 : t961 = t963
         ·rw [if_pos c386] at H
          have c386b0 : (t961 == t963) = true := beq_iff_eq.mpr c386
          have c386b1 : (t961 != t963) = false := bne_eq_false_iff_eq.mpr c386
          clear c386
          have H' := Aside0.mk H
          clear H
          go_wp2
          go_meet
          case rel => exact ⟨_, (decide (t961 < 1)), (by first | rfl | (simp; done) | (simp [*]; done)), H', ⟨by have := HJ16.out; first | omega | exact Nat.le_refl _⟩, ⟨by (with_reducible repeat (first | refine blk_drewN ?_ _ | refine blk_drew ?_ | refine blk_alloc ?_ _)); exact BK924.out⟩, ⟨by (with_reducible repeat (first | refine blk_drewN ?_ _ | refine blk_drew ?_ | refine blk_alloc ?_ _)); exact BK931.out⟩, ⟨by (with_reducible repeat (first | refine blk_drewN ?_ _ | refine blk_drew ?_ | refine blk_alloc ?_ _)); exact BK934.out⟩, ⟨by (with_reducible repeat (first | refine blk_drewN ?_ _ | refine blk_drew ?_ | refine blk_alloc ?_ _)); exact BK938.out⟩, ⟨by (with_reducible repeat (first | refine blk_drewN ?_ _ | refine blk_drew ?_ | refine blk_alloc ?_ _)); exact BK942.out⟩, ⟨by (with_reducible repeat (first | refine blk_drewN ?_ _ | refine blk_drew ?_ | refine blk_alloc ?_ _)); exact BK946.out⟩, ⟨by (with_reducible repeat (first | refine blk_drewN ?_ _ | refine blk_drew ?_ | refine blk_alloc ?_ _)); exact BK950.out⟩, ⟨by (with_reducible repeat (first | refine blk_drewN ?_ _ | refine blk_drew ?_ | refine blk_alloc ?_ _)); exact BK958.out⟩, ⟨by repeat (first | (with_reducible first | exact HB.out | apply below_alloc | apply pw_below_drewN | apply below_drew1 | refine below_set ?_ GE924.out | refine below_set ?_ GE931.out | refine below_set ?_ GE934.out | refine below_set ?_ GE938.out | refine below_set ?_ GE942.out | refine below_set ?_ GE946.out | refine below_set ?_ GE950.out | refine below_set ?_ GE958.out) | exact HB.out)⟩⟩
         ·rw [if_neg c386] at H
          exact absurd H (by apply laws_FnLeast.j1_no)
        ·rw [if_neg c385] at H
         exact absurd H (by apply laws_FnLeast.j1_no)
       ·rw [if_neg c384] at H
        exact absurd H (by apply laws_FnLeast.j1_no)
      ·rw [if_neg c383] at H
       exact absurd H (by apply laws_FnLeast.j1_no)
     case rest =>
      clear HC363
      try clear c1
      try clear c2
      try clear p2
      try clear c3
      try clear c4
      try clear c8
      try clear c10
      try clear c12
      try clear c13
      try clear c14
      try clear c15
      try clear c16
      try clear c17
      try clear c18
      try clear c19
      try clear c20
      try clear c21
      try clear c22
      try clear c23
      try clear c24
      try clear c25
      try clear c26
      try clear c27
      try clear c28
      try clear c29
      try clear c30
      try clear c31
      try clear c32
      try clear c33
      try clear c34
      try clear c35
      try clear c36
      try clear c37
      try clear c38
      try clear c43
      try clear c44
      try clear c87
      try clear c87b0
      try clear c87b1
      try clear c88
      try clear c88b0
      try clear c88b1
      try clear c105
      try clear c105b0
      try clear c105b1
      try clear c128
      try clear c128b0
      try clear c128b1
      try clear c129
      try clear c129b0
      try clear c129b1
      try clear c130
      try clear c130b0
      try clear c146
      try clear c147
      try clear c148
      try clear c149
      try clear c150
      try clear c152
      try clear c153
      try clear c154
      try clear c155
      try clear c157
      try clear c157b0
      try clear c157b1
      try clear c158
      try clear c159
      try clear c159b0
      try clear c159b1
      try clear c160
      try clear c160b0
      try clear c160b1
      try clear c160b2
      try clear c161
      try clear c162
      try clear c163
      try clear c164
      try clear c165
      try clear c166
      try clear c167
      try clear c169
      try clear c170
      try clear c171
      try clear c172
      try clear c173
      try clear c174
      try clear c176
      try clear c177
      try clear c178
      try clear c179
      try clear c180
      try clear c182
      try clear c183
      try clear c184
      try clear c185
      try clear c187
      try clear c188
      try clear c189
      try clear c191
      try clear c192
      try clear c193
      try clear c194
      try clear c195
      try clear c196
      try clear c197
      try clear c199
      try clear c200
      try clear c201
      try clear c202
      try clear c203
      try clear c204
      try clear c206
      try clear c207
      try clear c208
      try clear c209
      try clear c210
      try clear c212
      try clear c213
      try clear c214
      try clear c215
      try clear c217
      try clear c218
      try clear c219
      try clear c221
      try clear c222
      try clear c224
      try clear c225
      try clear c226
      try clear c227
      try clear c228
      try clear c229
      try clear c230
      try clear c232
      try clear c233
      try clear c234
      try clear c235
      try clear c236
      try clear c237
      try clear c239
      try clear c240
      try clear c241
      try clear c242
      try clear c243
      try clear c245
      try clear c246
      try clear c247
      try clear c248
      try clear c250
      try clear c251
      try clear c252
      try clear c253
      try clear c254
      try clear c255
      try clear c256
      try clear c258
      try clear c259
      try clear c260
      try clear c261
      try clear c262
      try clear c263
      try clear c265
      try clear c266
      try clear c267
      try clear c268
      try clear c269
      try clear c271
      try clear c272
      try clear c273
      try clear c274
      try clear c276
      try clear c277
      try clear c278
      try clear c279
      try clear c280
      try clear c281
      try clear c282
      try clear c284
      try clear c285
      try clear c286
      try clear c287
      try clear c288
      try clear c289
      try clear c291
      try clear c292
      try clear c293
      try clear c294
      try clear c295
      try clear c297
      try clear c298
      try clear c299
      try clear c300
      try clear c302
      try clear c303
      try clear c304
      try clear c305
      try clear c306
      try clear c307
      try clear c308
      try clear c310
      try clear c311
      try clear c312
      try clear c313
      try clear c314
      try clear c315
      try clear c317
      try clear c318
      try clear c319
      try clear c320
      try clear c321
      try clear c323
      try clear c324
      try clear c325
      try clear c326
      try clear c327
      try clear c328
      try clear c329
      try clear c331
      try clear c332
      try clear c333
      try clear c334
      try clear c335
      try clear c336
      try clear c338
      try clear c339
      try clear c340
      try clear c341
      try clear c342
      try clear c344
      try clear c345
      try clear c346
      try clear c347
      try clear c348
      try clear c349
      try clear c350
      try clear c352
      try clear c353
      try clear c354
      try clear c355
      try clear c356
      try clear c357
      try clear c359
      try clear c364
      try clear c365
      try clear c366
      try clear c367
      try clear c368
      try clear c369
      try clear c370
      try clear c373
      try clear c374
      try clear c375
      try clear c376
      try clear c377
      try clear c378
      try clear c383
      try clear c383b0
      try clear c383b1
      try clear c384
      try clear c384b0
      try clear c384b1
      try clear c385
      try clear c385b0
      try clear c385b1
      try clear c386
      try clear c386b0
      try clear c386b1
      try clear hcz151_0
      try clear hcz151_1
      try clear hcz156_0
      try clear hcz156_1
      try clear hcz168_0
      try clear hcz168_1
      try clear hcz175_0
      try clear hcz175_1
      try clear hcz181_0
      try clear hcz181_1
      try clear hcz186_0
      try clear hcz186_1
      try clear hcz190_0
      try clear hcz190_1
      try clear hcz198_0
      try clear hcz198_1
      try clear hcz205_0
      try clear hcz205_1
      try clear hcz211_0
      try clear hcz211_1
      try clear hcz216_0
      try clear hcz216_1
      try clear hcz220_0
      try clear hcz220_1
      try clear hcz223_0
      try clear hcz223_1
      try clear hcz231_0
      try clear hcz231_1
      try clear hcz238_0
      try clear hcz238_1
      try clear hcz244_0
      try clear hcz244_1
      try clear hcz249_0
      try clear hcz249_1
      try clear hcz257_0
      try clear hcz257_1
      try clear hcz264_0
      try clear hcz264_1
      try clear hcz270_0
      try clear hcz270_1
      try clear hcz275_0
      try clear hcz275_1
      try clear hcz283_0
      try clear hcz283_1
      try clear hcz290_0
      try clear hcz290_1
      try clear hcz296_0
      try clear hcz296_1
      try clear hcz301_0
      try clear hcz301_1
      try clear hcz309_0
      try clear hcz309_1
      try clear hcz316_0
      try clear hcz316_1
      try clear hcz322_0
      try clear hcz322_1
      try clear hcz330_0
      try clear hcz330_1
      try clear hcz337_0
      try clear hcz337_1
      try clear hcz343_0
      try clear hcz343_1
      try clear hcz351_0
      try clear hcz351_1
      try clear hcz358_0
      try clear hcz358_1
      try clear hcz371_0
      try clear hcz371_1
      try clear hcz379_0
      try clear hcz379_1
      try clear hcz381_0
      try clear hcz381_1
      try clear hfz145_0
      try clear hfz145_1
      try clear hfz151_0
      try clear hfz151_1
      try clear hfz156_0
      try clear hfz156_1
      try clear hfz168_0
      try clear hfz168_1
      try clear hfz175_0
      try clear hfz175_1
      try clear hfz181_0
      try clear hfz181_1
      try clear hfz186_0
      try clear hfz186_1
      try clear hfz190_0
      try clear hfz190_1
      try clear hfz198_0
      try clear hfz198_1
      try clear hfz205_0
      try clear hfz205_1
      try clear hfz211_0
      try clear hfz211_1
      try clear hfz216_0
      try clear hfz216_1
      try clear hfz220_0
      try clear hfz220_1
      try clear hfz223_0
      try clear hfz223_1
      try clear hfz231_0
      try clear hfz231_1
      try clear hfz238_0
      try clear hfz238_1
      try clear hfz244_0
      try clear hfz244_1
      try clear hfz249_0
      try clear hfz249_1
      try clear hfz257_0
      try clear hfz257_1
      try clear hfz264_0
      try clear hfz264_1
      try clear hfz270_0
      try clear hfz270_1
      try clear hfz275_0
      try clear hfz275_1
      try clear hfz283_0
      try clear hfz283_1
      try clear hfz290_0
      try clear hfz290_1
      try clear hfz296_0
      try clear hfz296_1
      try clear hfz301_0
      try clear hfz301_1
      try clear hfz309_0
      try clear hfz309_1
      try clear hfz316_0
      try clear hfz316_1
      try clear hfz322_0
      try clear hfz322_1
      try clear hfz330_0
      try clear hfz330_1
      try clear hfz337_0
      try clear hfz337_1
      try clear hfz343_0
      try clear hfz343_1
      try clear hfz351_0
      try clear hfz351_1
      try clear hfz358_0
      try clear hfz358_1
      try clear hfz371_0
      try clear hfz371_1
      try clear hfz379_0
      try clear hfz379_1
      try clear hfz381_0
      try clear hfz381_1
      try clear p2
      obtain ⟨kq, x183_362, rfl, HA, HJ362, BK924, BK931, BK934, BK938, BK942, BK946, BK950, BK958, HB⟩ := hcut
      cases kq with
      | zero => exact absurd HA.out (by simp [laws_FnLeast.j1])
      | succ kj362 =>
       have H := HA.out
       clear HA
       simp only [laws_FnLeast.j1] at H
       by_cases c387 : x183_362 = true
       ·subst c387
        have H1 : (some false) = some true := by rw [if_pos rfl] at H; exact H
        clear H
        have H := H1
        clear H1
        exact absurd H (by simp)
       ·replace c387 := Bool.eq_false_iff.mpr c387
        subst c387
        have H1 : (if t921 = 5 then (some true) else ((impl_AllGraphs.f kj362 t921).bind fun bt965 => (laws_FnLeast.l0 kj362 t959 bt965.1 bt965.2 0 0 t935 t936))) = some true := by rw [if_neg (show ¬ (false = true) by decide)] at H; exact H
        clear H
        have H := H1
        clear H1
        by_cases c388 : t921 = 5
        ·rw [if_pos c388] at H
         have c388b0 : (t921 == 5) = true := beq_iff_eq.mpr c388
         have c388b1 : (t921 != 5) = false := bne_eq_false_iff_eq.mpr c388
         clear c388
         clear H
         go_wp2
         go_ret
         exact ⟨by first | rfl | (simp [errW_none, errW_some] <;> rfl) | (simp [*, errW_none, errW_some] <;> rfl), by repeat (first | (with_reducible first | exact HB.out | apply below_alloc | apply pw_below_drewN | apply below_drew1 | refine below_set ?_ GE924.out | refine below_set ?_ GE931.out | refine below_set ?_ GE934.out | refine below_set ?_ GE938.out | refine below_set ?_ GE942.out | refine below_set ?_ GE946.out | refine below_set ?_ GE950.out | refine below_set ?_ GE958.out) | exact HB.out)⟩
        ·rw [if_neg c388] at H
         have c388b0 : (t921 == 5) = false := beq_eq_false_iff_ne.mpr c388
         have c388b1 : (t921 != 5) = true := bne_iff_ne.mpr c388
         replace H := Option.bind_eq_some_iff.mp H
         obtain ⟨⟨t965, t966⟩, A3890, H⟩ := H
         replace H : (laws_FnLeast.l0 kj362 t959 t965 t966 0 0 t935 t936) = some true := H
         have A389 := Aside0.mk A3890
         clear A3890
         have H' := Aside0.mk H
         clear H
         go_wp2_with (first | ((with_reducible refine gate_callee (f := 34) rfl ?_); refine goesL_ (some 188) rfl rfl Try.func34 (by kernel_rfl) rfl #[.int .i64 t921] rfl (by (try simp only [List.map_toArray, List.map_cons, List.map_nil]); first | done | rfl | (simp only [List.length_drop, List.length_take]; rfl)) ?_; (with_reducible refine (impl_AllGraphs.calls kj362 t921 t965 t966 _ A389.out).mono ?_); rintro e w390 ⟨v967, rfl, ho0, hb⟩; refine ⟨_, rfl, ?_⟩; have n0_ := Aside0.mk (Kd.R_lower (Kd.R_newB (Kd.R_newB (Kd.R_newB (Kd.R_newB (Kd.R_newB (Kd.R_newB (Kd.R_newB (Kd.R_newB ho0 (g := gb924) (o := .cells #[.int .i64 t922, .int .u32 t923] 27 (0, 0)) (by (with_reducible repeat (first | refine blk_drewN ?_ _ | refine blk_drew ?_ | refine blk_alloc ?_ _)); exact BK924.out)) (g := gb931) (o := .cells #[.int .i64 t928, .int .u32 t929] 27 (0, 0)) (by (with_reducible repeat (first | refine blk_drewN ?_ _ | refine blk_drew ?_ | refine blk_alloc ?_ _)); exact BK931.out)) (g := gb934) (o := .cells #[.int .i64 t932, .int .u32 t933] 27 (0, 0)) (by (with_reducible repeat (first | refine blk_drewN ?_ _ | refine blk_drew ?_ | refine blk_alloc ?_ _)); exact BK934.out)) (g := gb938) (o := .cells #[.int .i64 t935, .int .u32 t936] 27 (0, 0)) (by (with_reducible repeat (first | refine blk_drewN ?_ _ | refine blk_drew ?_ | refine blk_alloc ?_ _)); exact BK938.out)) (g := gb942) (o := .cells #[.int .i64 t939, .int .u32 t940] 27 (0, 0)) (by (with_reducible repeat (first | refine blk_drewN ?_ _ | refine blk_drew ?_ | refine blk_alloc ?_ _)); exact BK942.out)) (g := gb946) (o := .cells #[.int .i64 t943, .int .u32 t944] 27 (0, 0)) (by (with_reducible repeat (first | refine blk_drewN ?_ _ | refine blk_drew ?_ | refine blk_alloc ?_ _)); exact BK946.out)) (g := gb950) (o := .cells #[.int .i64 t947, .int .u32 t948] 27 (0, 0)) (by (with_reducible repeat (first | refine blk_drewN ?_ _ | refine blk_drew ?_ | refine blk_alloc ?_ _)); exact BK950.out)) (g := gb958) (o := .cells #[.int .i64 t955, .int .u32 t956] 27 (0, 0)) (by (with_reducible repeat (first | refine blk_drewN ?_ _ | refine blk_drew ?_ | refine blk_alloc ?_ _)); exact BK958.out)) (below_size (by repeat (first | (with_reducible first | exact HB.out | apply below_alloc | apply pw_below_drewN | apply below_drew1 | refine below_set ?_ GE924.out | refine below_set ?_ GE931.out | refine below_set ?_ GE934.out | refine below_set ?_ GE938.out | refine below_set ?_ GE942.out | refine below_set ?_ GE946.out | refine below_set ?_ GE950.out | refine below_set ?_ GE958.out) | exact HB.out)))); have n1_ := Aside0.mk (blk_below (g := gb924) (o := .cells #[.int .i64 t922, .int .u32 t923] 27 (0, 0)) (by (with_reducible repeat (first | refine blk_drewN ?_ _ | refine blk_drew ?_ | refine blk_alloc ?_ _)); exact BK924.out) hb); have n2_ := Aside0.mk (blk_below (g := gb931) (o := .cells #[.int .i64 t928, .int .u32 t929] 27 (0, 0)) (by (with_reducible repeat (first | refine blk_drewN ?_ _ | refine blk_drew ?_ | refine blk_alloc ?_ _)); exact BK931.out) hb); have n3_ := Aside0.mk (blk_below (g := gb934) (o := .cells #[.int .i64 t932, .int .u32 t933] 27 (0, 0)) (by (with_reducible repeat (first | refine blk_drewN ?_ _ | refine blk_drew ?_ | refine blk_alloc ?_ _)); exact BK934.out) hb); have n4_ := Aside0.mk (blk_below (g := gb938) (o := .cells #[.int .i64 t935, .int .u32 t936] 27 (0, 0)) (by (with_reducible repeat (first | refine blk_drewN ?_ _ | refine blk_drew ?_ | refine blk_alloc ?_ _)); exact BK938.out) hb); have n5_ := Aside0.mk (blk_below (g := gb942) (o := .cells #[.int .i64 t939, .int .u32 t940] 27 (0, 0)) (by (with_reducible repeat (first | refine blk_drewN ?_ _ | refine blk_drew ?_ | refine blk_alloc ?_ _)); exact BK942.out) hb); have n6_ := Aside0.mk (blk_below (g := gb946) (o := .cells #[.int .i64 t943, .int .u32 t944] 27 (0, 0)) (by (with_reducible repeat (first | refine blk_drewN ?_ _ | refine blk_drew ?_ | refine blk_alloc ?_ _)); exact BK946.out) hb); have n7_ := Aside0.mk (blk_below (g := gb950) (o := .cells #[.int .i64 t947, .int .u32 t948] 27 (0, 0)) (by (with_reducible repeat (first | refine blk_drewN ?_ _ | refine blk_drew ?_ | refine blk_alloc ?_ _)); exact BK950.out) hb); have n8_ := Aside0.mk (blk_below (g := gb958) (o := .cells #[.int .i64 t955, .int .u32 t956] 27 (0, 0)) (by (with_reducible repeat (first | refine blk_drewN ?_ _ | refine blk_drew ?_ | refine blk_alloc ?_ _)); exact BK958.out) hb); have n9_ := Aside0.mk (below_step (by repeat (first | (with_reducible first | exact HB.out | apply below_alloc | apply pw_below_drewN | apply below_drew1 | refine below_set ?_ GE924.out | refine below_set ?_ GE931.out | refine below_set ?_ GE934.out | refine below_set ?_ GE938.out | refine below_set ?_ GE942.out | refine below_set ?_ GE946.out | refine below_set ?_ GE950.out | refine below_set ?_ GE958.out) | exact HB.out)) hb); clear BK924; clear BK931; clear BK934; clear BK938; clear BK942; clear BK946; clear BK950; clear BK958; clear HB; have HO968 := n0_; have BK924 := n1_; have BK931 := n2_; have BK934 := n3_; have BK938 := n4_; have BK942 := n5_; have BK946 := n6_; have BK950 := n7_; have BK958 := n8_; have HB := n9_; clear n0_ n1_ n2_ n3_ n4_ n5_ n6_ n7_ n8_ n9_; (try clear hb); (try clear hb2); (try clear hk); (try clear hi); (try clear ho0)))
         go_loopg [32, 33] kj362 (fun kq v32 v33 w' => ∃ (x32_3 : Int) (x33_3 : Int), v32 = .int .i64 x32_3 ∧ v33 = .int .i64 x33_3 ∧ Aside0 (laws_FnLeast.l0 kq t959 t965 t966 x32_3 x33_3 t935 t936 = some true) ∧ Aside0 (kq ≤ kj362) ∧ Aside0 (Kd.R k27 27 w' w.heap.size (fun k_ => k_ ≠ gb924 ∧ k_ ≠ gb931 ∧ k_ ≠ gb934 ∧ k_ ≠ gb938 ∧ k_ ≠ gb942 ∧ k_ ≠ gb946 ∧ k_ ≠ gb950 ∧ k_ ≠ gb958) v967 t965) ∧ Aside0 (w'.heap[gb924]? = some (.cells #[.int .i64 t922, .int .u32 t923] 27 (0, 0))) ∧ Aside0 (w'.heap[gb931]? = some (.cells #[.int .i64 t928, .int .u32 t929] 27 (0, 0))) ∧ Aside0 (w'.heap[gb934]? = some (.cells #[.int .i64 t932, .int .u32 t933] 27 (0, 0))) ∧ Aside0 (w'.heap[gb938]? = some (.cells #[.int .i64 t935, .int .u32 t936] 27 (0, 0))) ∧ Aside0 (w'.heap[gb942]? = some (.cells #[.int .i64 t939, .int .u32 t940] 27 (0, 0))) ∧ Aside0 (w'.heap[gb946]? = some (.cells #[.int .i64 t943, .int .u32 t944] 27 (0, 0))) ∧ Aside0 (w'.heap[gb950]? = some (.cells #[.int .i64 t947, .int .u32 t948] 27 (0, 0))) ∧ Aside0 (w'.heap[gb958]? = some (.cells #[.int .i64 t955, .int .u32 t956] 27 (0, 0))) ∧ Aside0 (Below w.heap.size w w'))
         case atStart => exact ⟨(0), (0), (by first | rfl | (simp; done) | (simp [*]; done)), (by first | rfl | (simp; done) | (simp [*]; done)), H', ⟨Nat.le_refl _⟩, ⟨by (with_reducible repeat (first | apply Kd.R_alloc | apply Kd.R_drewN | apply Kd.R_drew)); exact Kd.R_mono HO968.out (fun _ hk => ⟨hk.1.1.1.1.1.1.1.2, ⟨hk.1.1.1.1.1.1.2, ⟨hk.1.1.1.1.1.2, ⟨hk.1.1.1.1.2, ⟨hk.1.1.1.2, ⟨hk.1.1.2, ⟨hk.1.2, hk.2⟩⟩⟩⟩⟩⟩⟩)⟩, ⟨by (with_reducible repeat (first | refine blk_drewN ?_ _ | refine blk_drew ?_ | refine blk_alloc ?_ _)); exact BK924.out⟩, ⟨by (with_reducible repeat (first | refine blk_drewN ?_ _ | refine blk_drew ?_ | refine blk_alloc ?_ _)); exact BK931.out⟩, ⟨by (with_reducible repeat (first | refine blk_drewN ?_ _ | refine blk_drew ?_ | refine blk_alloc ?_ _)); exact BK934.out⟩, ⟨by (with_reducible repeat (first | refine blk_drewN ?_ _ | refine blk_drew ?_ | refine blk_alloc ?_ _)); exact BK938.out⟩, ⟨by (with_reducible repeat (first | refine blk_drewN ?_ _ | refine blk_drew ?_ | refine blk_alloc ?_ _)); exact BK942.out⟩, ⟨by (with_reducible repeat (first | refine blk_drewN ?_ _ | refine blk_drew ?_ | refine blk_alloc ?_ _)); exact BK946.out⟩, ⟨by (with_reducible repeat (first | refine blk_drewN ?_ _ | refine blk_drew ?_ | refine blk_alloc ?_ _)); exact BK950.out⟩, ⟨by (with_reducible repeat (first | refine blk_drewN ?_ _ | refine blk_drew ?_ | refine blk_alloc ?_ _)); exact BK958.out⟩, ⟨by repeat (first | (with_reducible first | exact HB.out | apply below_alloc | apply pw_below_drewN | apply below_drew1 | refine below_set ?_ GE924.out | refine below_set ?_ GE931.out | refine below_set ?_ GE934.out | refine below_set ?_ GE938.out | refine below_set ?_ GE942.out | refine below_set ?_ GE946.out | refine below_set ?_ GE950.out | refine below_set ?_ GE958.out) | exact HB.out)⟩⟩
         case round =>
          clear H'
          try clear c1
          try clear c2
          try clear p2
          try clear c3
          try clear c4
          try clear c8
          try clear c10
          try clear c12
          try clear c13
          try clear c14
          try clear c15
          try clear c16
          try clear c17
          try clear c18
          try clear c19
          try clear c20
          try clear c21
          try clear c22
          try clear c23
          try clear c24
          try clear c25
          try clear c26
          try clear c27
          try clear c28
          try clear c29
          try clear c30
          try clear c31
          try clear c32
          try clear c33
          try clear c34
          try clear c35
          try clear c36
          try clear c37
          try clear c38
          try clear c43
          try clear c44
          try clear c87
          try clear c87b0
          try clear c87b1
          try clear c88
          try clear c88b0
          try clear c88b1
          try clear c105
          try clear c105b0
          try clear c105b1
          try clear c128
          try clear c128b0
          try clear c128b1
          try clear c129
          try clear c129b0
          try clear c129b1
          try clear c130
          try clear c130b0
          try clear c146
          try clear c147
          try clear c148
          try clear c149
          try clear c150
          try clear c152
          try clear c153
          try clear c154
          try clear c155
          try clear c157
          try clear c157b0
          try clear c157b1
          try clear c158
          try clear c159
          try clear c159b0
          try clear c159b1
          try clear c160
          try clear c160b0
          try clear c160b1
          try clear c160b2
          try clear c161
          try clear c162
          try clear c163
          try clear c164
          try clear c165
          try clear c166
          try clear c167
          try clear c169
          try clear c170
          try clear c171
          try clear c172
          try clear c173
          try clear c174
          try clear c176
          try clear c177
          try clear c178
          try clear c179
          try clear c180
          try clear c182
          try clear c183
          try clear c184
          try clear c185
          try clear c187
          try clear c188
          try clear c189
          try clear c191
          try clear c192
          try clear c193
          try clear c194
          try clear c195
          try clear c196
          try clear c197
          try clear c199
          try clear c200
          try clear c201
          try clear c202
          try clear c203
          try clear c204
          try clear c206
          try clear c207
          try clear c208
          try clear c209
          try clear c210
          try clear c212
          try clear c213
          try clear c214
          try clear c215
          try clear c217
          try clear c218
          try clear c219
          try clear c221
          try clear c222
          try clear c224
          try clear c225
          try clear c226
          try clear c227
          try clear c228
          try clear c229
          try clear c230
          try clear c232
          try clear c233
          try clear c234
          try clear c235
          try clear c236
          try clear c237
          try clear c239
          try clear c240
          try clear c241
          try clear c242
          try clear c243
          try clear c245
          try clear c246
          try clear c247
          try clear c248
          try clear c250
          try clear c251
          try clear c252
          try clear c253
          try clear c254
          try clear c255
          try clear c256
          try clear c258
          try clear c259
          try clear c260
          try clear c261
          try clear c262
          try clear c263
          try clear c265
          try clear c266
          try clear c267
          try clear c268
          try clear c269
          try clear c271
          try clear c272
          try clear c273
          try clear c274
          try clear c276
          try clear c277
          try clear c278
          try clear c279
          try clear c280
          try clear c281
          try clear c282
          try clear c284
          try clear c285
          try clear c286
          try clear c287
          try clear c288
          try clear c289
          try clear c291
          try clear c292
          try clear c293
          try clear c294
          try clear c295
          try clear c297
          try clear c298
          try clear c299
          try clear c300
          try clear c302
          try clear c303
          try clear c304
          try clear c305
          try clear c306
          try clear c307
          try clear c308
          try clear c310
          try clear c311
          try clear c312
          try clear c313
          try clear c314
          try clear c315
          try clear c317
          try clear c318
          try clear c319
          try clear c320
          try clear c321
          try clear c323
          try clear c324
          try clear c325
          try clear c326
          try clear c327
          try clear c328
          try clear c329
          try clear c331
          try clear c332
          try clear c333
          try clear c334
          try clear c335
          try clear c336
          try clear c338
          try clear c339
          try clear c340
          try clear c341
          try clear c342
          try clear c344
          try clear c345
          try clear c346
          try clear c347
          try clear c348
          try clear c349
          try clear c350
          try clear c352
          try clear c353
          try clear c354
          try clear c355
          try clear c356
          try clear c357
          try clear c359
          try clear c364
          try clear c365
          try clear c366
          try clear c367
          try clear c368
          try clear c369
          try clear c370
          try clear c373
          try clear c374
          try clear c375
          try clear c376
          try clear c377
          try clear c378
          try clear c383
          try clear c383b0
          try clear c383b1
          try clear c384
          try clear c384b0
          try clear c384b1
          try clear c385
          try clear c385b0
          try clear c385b1
          try clear c386
          try clear c386b0
          try clear c386b1
          try clear c387
          try clear c388
          try clear c388b0
          try clear c388b1
          try clear hcz151_0
          try clear hcz151_1
          try clear hcz156_0
          try clear hcz156_1
          try clear hcz168_0
          try clear hcz168_1
          try clear hcz175_0
          try clear hcz175_1
          try clear hcz181_0
          try clear hcz181_1
          try clear hcz186_0
          try clear hcz186_1
          try clear hcz190_0
          try clear hcz190_1
          try clear hcz198_0
          try clear hcz198_1
          try clear hcz205_0
          try clear hcz205_1
          try clear hcz211_0
          try clear hcz211_1
          try clear hcz216_0
          try clear hcz216_1
          try clear hcz220_0
          try clear hcz220_1
          try clear hcz223_0
          try clear hcz223_1
          try clear hcz231_0
          try clear hcz231_1
          try clear hcz238_0
          try clear hcz238_1
          try clear hcz244_0
          try clear hcz244_1
          try clear hcz249_0
          try clear hcz249_1
          try clear hcz257_0
          try clear hcz257_1
          try clear hcz264_0
          try clear hcz264_1
          try clear hcz270_0
          try clear hcz270_1
          try clear hcz275_0
          try clear hcz275_1
          try clear hcz283_0
          try clear hcz283_1
          try clear hcz290_0
          try clear hcz290_1
          try clear hcz296_0
          try clear hcz296_1
          try clear hcz301_0
          try clear hcz301_1
          try clear hcz309_0
          try clear hcz309_1
          try clear hcz316_0
          try clear hcz316_1
          try clear hcz322_0
          try clear hcz322_1
          try clear hcz330_0
          try clear hcz330_1
          try clear hcz337_0
          try clear hcz337_1
          try clear hcz343_0
          try clear hcz343_1
          try clear hcz351_0
          try clear hcz351_1
          try clear hcz358_0
          try clear hcz358_1
          try clear hcz371_0
          try clear hcz371_1
          try clear hcz379_0
          try clear hcz379_1
          try clear hcz381_0
          try clear hcz381_1
          try clear hfz145_0
          try clear hfz145_1
          try clear hfz151_0
          try clear hfz151_1
          try clear hfz156_0
          try clear hfz156_1
          try clear hfz168_0
          try clear hfz168_1
          try clear hfz175_0
          try clear hfz175_1
          try clear hfz181_0
          try clear hfz181_1
          try clear hfz186_0
          try clear hfz186_1
          try clear hfz190_0
          try clear hfz190_1
          try clear hfz198_0
          try clear hfz198_1
          try clear hfz205_0
          try clear hfz205_1
          try clear hfz211_0
          try clear hfz211_1
          try clear hfz216_0
          try clear hfz216_1
          try clear hfz220_0
          try clear hfz220_1
          try clear hfz223_0
          try clear hfz223_1
          try clear hfz231_0
          try clear hfz231_1
          try clear hfz238_0
          try clear hfz238_1
          try clear hfz244_0
          try clear hfz244_1
          try clear hfz249_0
          try clear hfz249_1
          try clear hfz257_0
          try clear hfz257_1
          try clear hfz264_0
          try clear hfz264_1
          try clear hfz270_0
          try clear hfz270_1
          try clear hfz275_0
          try clear hfz275_1
          try clear hfz283_0
          try clear hfz283_1
          try clear hfz290_0
          try clear hfz290_1
          try clear hfz296_0
          try clear hfz296_1
          try clear hfz301_0
          try clear hfz301_1
          try clear hfz309_0
          try clear hfz309_1
          try clear hfz316_0
          try clear hfz316_1
          try clear hfz322_0
          try clear hfz322_1
          try clear hfz330_0
          try clear hfz330_1
          try clear hfz337_0
          try clear hfz337_1
          try clear hfz343_0
          try clear hfz343_1
          try clear hfz351_0
          try clear hfz351_1
          try clear hfz358_0
          try clear hfz358_1
          try clear hfz371_0
          try clear hfz371_1
          try clear hfz379_0
          try clear hfz379_1
          try clear hfz381_0
          try clear hfz381_1
          try clear p2
          obtain ⟨x32_3, x33_3, rfl, rfl, HA, HK3, HO_30, BK924, BK931, BK934, BK938, BK942, BK946, BK950, BK958, HB⟩ := hrel
          cases gk with
          | zero => exact absurd HA.out (by simp [laws_FnLeast.l0])
          | succ k3 =>
           have H := HA.out
           clear HA
           simp only [laws_FnLeast.l0] at H
           by_cases c391 : x33_3 < (t965.length : Int)
           ·rw [if_pos c391] at H
            have c391b0 : decide (x33_3 < (t965.length : Int)) = true := decide_eq_true c391
            clear c391
            by_cases c392 : 0 ≤ x33_3
            ·rw [if_pos c392] at H
             have c392b0 : decide (0 ≤ x33_3) = true := decide_eq_true c392
             clear c392
             by_cases c393 : (((rd_T27 t965 x33_3).f0) == t935 && (((rd_T27 t965 x33_3).f1) == t936)) = true
             ·rw [if_pos c393] at H
              have c393b0 : (((rd_T27 t965 x33_3).f0) == t935 && (((rd_T27 t965 x33_3).f1) == t936)) = true := c393
              (try (have c393b1 : decide (((rd_T27 t965 x33_3).f0) = t935 && (((rd_T27 t965 x33_3).f1) == t936)) = true := by simpa using c393))
              (try (have c393b2 : (((rd_T27 t965 x33_3).f0) == t935 && (((rd_T27 t965 x33_3).f1) == t936)) = true := by simpa using c393))
              clear c393
              by_cases c394 : x33_3 = t959
              ·rw [if_pos c394] at H
               have c394b0 : (x33_3 == t959) = true := beq_iff_eq.mpr c394
               have c394b1 : (x33_3 != t959) = false := bne_eq_false_iff_eq.mpr c394
               clear c394
               by_cases c395 : x33_3 > 0
               ·rw [if_pos c395] at H
                have c395b0 : decide (0 < x33_3) = true := decide_eq_true c395
                clear c395
                obtain ⟨ji396, hji396⟩ : ∃ j_ : Int, (wrap64 (x33_3 - 1)) = j_ := ⟨_, rfl⟩
                replace H : (if 0 ≤ (ji396) then (if (ji396) < (t965.length : Int) then (if ((rd_T27 t965 (ji396)).f1) ≥ ((rd_T27 t965 x33_3).f1) then (some false) else (laws_FnLeast.l0 k3 t959 t965 t966 (wrap64 (x32_3 + 1)) (wrap64 (x33_3 + 1)) t935 t936)) else (none)) else (none)) = some true := by first | (rw [hji396] at H; exact H) | (simp only [hji396] at H ⊢; exact H)
                have hji396w : (IntKind.i64.wrap (x33_3 - 1)) = ji396 := (i64_w _).trans hji396
                by_cases c397 : 0 ≤ (ji396)
                ·rw [if_pos c397] at H
                 have c397b0 : decide (0 ≤ (ji396)) = true := decide_eq_true c397
                 clear c397
                 by_cases c398 : (ji396) < (t965.length : Int)
                 ·rw [if_pos c398] at H
                  have c398b0 : decide ((ji396) < (t965.length : Int)) = true := decide_eq_true c398
                  clear c398
                  by_cases c399 : ((rd_T27 t965 (ji396)).f1) ≥ ((rd_T27 t965 x33_3).f1)
                  ·rw [if_pos c399] at H
                   have c399b0 : decide (((rd_T27 t965 x33_3).f1) ≤ ((rd_T27 t965 (ji396)).f1)) = true := decide_eq_true c399
                   clear c399
                   exact absurd H (by simp)
                  ·rw [if_neg c399] at H
                   have c399b0 : decide (((rd_T27 t965 x33_3).f1) ≤ ((rd_T27 t965 (ji396)).f1)) = false := decide_eq_false c399
                   clear c399
                   have H' := Aside0.mk H
                   clear H
                   obtain ⟨Ao403, co403, eo403⟩ := Kd.R_slice HO_30.out
                   subst eo403
                   try go_wp2
                   have n0_ := Aside0.mk (Kd.R_drew HO_30.out)
                   have n1_ := Aside0.mk (blk_drew BK924.out)
                   have n2_ := Aside0.mk (blk_drew BK931.out)
                   have n3_ := Aside0.mk (blk_drew BK934.out)
                   have n4_ := Aside0.mk (blk_drew BK938.out)
                   have n5_ := Aside0.mk (blk_drew BK942.out)
                   have n6_ := Aside0.mk (blk_drew BK946.out)
                   have n7_ := Aside0.mk (blk_drew BK950.out)
                   have n8_ := Aside0.mk (blk_drew BK958.out)
                   have n9_ := Aside0.mk (below_drew1 HB.out)
                   clear HO_30 BK924 BK931 BK934 BK938 BK942 BK946 BK950 BK958 HB
                   have HO_30 := n0_
                   have BK924 := n1_
                   have BK931 := n2_
                   have BK934 := n3_
                   have BK938 := n4_
                   have BK942 := n5_
                   have BK946 := n6_
                   have BK950 := n7_
                   have BK958 := n8_
                   have HB := n9_
                   clear n0_ n1_ n2_ n3_ n4_ n5_ n6_ n7_ n8_ n9_
                   have p969 : 0 ≤ (x33_3 : Int) := of_decide_eq_true (by first | (with_reducible assumption) | assumption)
                   have q969 : x33_3 < (t965.length : Int) := of_decide_eq_true (by first | (with_reducible assumption) | assumption)
                   obtain ⟨ad969, e969, hx969_0, hx969_1⟩ := at_T27 (Kd.R_reads' HO_30.out).2.2 x33_3 p969 q969
                   cases e969
                   replace p969 := eq_true p969
                   replace q969 := eq_true q969
                   refine start_ (n := 6) (S := fun w' => w'.cell? ⟨gb938, 0, none⟩ = some (.int .i64 t935) ∧ w'.cell? ⟨gb938, 1, none⟩ = some (.int .u32 t936) ∧ w'.cell? (ad969.add ((x33_3).toNat * 2)) = some (.int .i64 ((rd_T27 t965 x33_3).f0)) ∧ w'.cell? ⟨(ad969.add ((x33_3).toNat * 2)).block, (ad969.add ((x33_3).toNat * 2)).off + 1, none⟩ = some (.int .u32 ((rd_T27 t965 x33_3).f1))) (ds := []) #[false, false, false, false, false, false] (by kernel_rfl) rfl rfl ⟨(blk_cell BK938.out 0).trans rfl, (blk_cell BK938.out 1).trans rfl, hx969_0, hx969_1⟩ (fun hHeld => ?_)
                   generalize wr.drew = w404 at HO_30 BK924 BK931 BK934 BK938 BK942 BK946 BK950 BK958 HB hx969_0 hx969_1 hHeld ⊢
                   refine pure_ (i := 0) (N := some 197) (v := ?_) (a' := ?_) #[true, false, false, false, false, false] rfl rfl (by kernel_rfl) (fun _ _ _ h => h) (Or.inl ⟨by rfl, ?_⟩) ?_ ?_
                   rotate_left
                   ·intro w'
                    go_simp
                    with_reducible rfl
                   rotate_left
                   ·simp only [Act.put, List.setIfInBounds_toArray, List.set_cons_zero, List.set_cons_succ, i64_w, i32_w]
                    rfl
                   refine pure_ (i := 1) (N := some 198) (v := ?_) (a' := ?_) #[true, true, false, false, false, false] rfl rfl (by kernel_rfl) (fun _ _ _ h => h) (Or.inl ⟨by rfl, ?_⟩) ?_ ?_
                   rotate_left
                   ·intro w'
                    go_simp
                    with_reducible rfl
                   rotate_left
                   ·simp only [Act.put, List.setIfInBounds_toArray, List.set_cons_zero, List.set_cons_succ, i64_w, i32_w]
                    rfl
                   refine pure_ (i := 2) (N := some 199) (v := ?_) (a' := ?_) #[true, true, true, false, false, false] rfl rfl (by kernel_rfl) (fun _ _ _ h => h) (Or.inl ⟨by rfl, ?_⟩) ?_ ?_
                   rotate_left
                   ·intro w'
                    go_simp
                    with_reducible rfl
                   rotate_left
                   ·simp only [Act.put, List.setIfInBounds_toArray, List.set_cons_zero, List.set_cons_succ, i64_w, i32_w]
                    rfl
                   refine take_ (i := 3) (N := some 200) (v := ?_) (a' := ?_) #[true, true, true, true, false, false] rfl rfl (by kernel_rfl) (fun _ _ _ h => h) (Or.inl ⟨by rfl, ?_⟩) hHeld ?_ ?_
                   rotate_left
                   ·rintro w' ⟨s0, s1, s2, s3⟩
                    go_simp
                    with_reducible rfl
                   rotate_left
                   ·simp only [Act.put, List.setIfInBounds_toArray, List.set_cons_zero, List.set_cons_succ, i64_w, i32_w]
                    rfl
                   refine take_ (i := 4) (N := some 201) (v := ?_) (a' := ?_) #[true, true, true, true, true, false] rfl rfl (by kernel_rfl) (fun _ _ _ h => h) (Or.inl ⟨by rfl, ?_⟩) hHeld ?_ ?_
                   rotate_left
                   ·rintro w' ⟨s0, s1, s2, s3⟩
                    go_simp
                    with_reducible rfl
                   rotate_left
                   ·simp only [Act.put, List.setIfInBounds_toArray, List.set_cons_zero, List.set_cons_succ, i64_w, i32_w]
                    rfl
                   refine pure_ (i := 5) (N := some 202) (v := ?_) (a' := ?_) #[true, true, true, true, true, true] rfl rfl (by kernel_rfl) (fun _ _ _ h => h) (Or.inl ⟨by rfl, ?_⟩) ?_ ?_
                   rotate_left
                   ·intro w'
                    go_simp
                    with_reducible rfl
                   rotate_left
                   ·simp only [Act.put, List.setIfInBounds_toArray, List.set_cons_zero, List.set_cons_succ, i64_w, i32_w]
                    rfl
                   refine done_ (by kernel_rfl) ?_
                   try go_wp2
                   have n0_ := Aside0.mk (Kd.R_drew HO_30.out)
                   have n1_ := Aside0.mk (blk_drew BK924.out)
                   have n2_ := Aside0.mk (blk_drew BK931.out)
                   have n3_ := Aside0.mk (blk_drew BK934.out)
                   have n4_ := Aside0.mk (blk_drew BK938.out)
                   have n5_ := Aside0.mk (blk_drew BK942.out)
                   have n6_ := Aside0.mk (blk_drew BK946.out)
                   have n7_ := Aside0.mk (blk_drew BK950.out)
                   have n8_ := Aside0.mk (blk_drew BK958.out)
                   have n9_ := Aside0.mk (below_drew1 HB.out)
                   clear HO_30 BK924 BK931 BK934 BK938 BK942 BK946 BK950 BK958 HB
                   have HO_30 := n0_
                   have BK924 := n1_
                   have BK931 := n2_
                   have BK934 := n3_
                   have BK938 := n4_
                   have BK942 := n5_
                   have BK946 := n6_
                   have BK950 := n7_
                   have BK958 := n8_
                   have HB := n9_
                   clear n0_ n1_ n2_ n3_ n4_ n5_ n6_ n7_ n8_ n9_
                   have p970 : 0 ≤ ((ji396) : Int) := of_decide_eq_true (by first | (with_reducible assumption) | assumption)
                   have q970 : (ji396) < (t965.length : Int) := of_decide_eq_true (by first | (with_reducible assumption) | assumption)
                   obtain ⟨ad970, e970, hx970_0, hx970_1⟩ := at_T27 (Kd.R_reads' HO_30.out).2.2 (ji396) p970 q970
                   obtain rfl : ad969 = ad970 := (by injection e970)
                   replace p970 := eq_true p970
                   replace q970 := eq_true q970
                   have p971 : 0 ≤ (x33_3 : Int) := of_decide_eq_true (by first | (with_reducible assumption) | assumption)
                   have q971 : x33_3 < (t965.length : Int) := of_decide_eq_true (by first | (with_reducible assumption) | assumption)
                   obtain ⟨ad971, e971, hx971_0, hx971_1⟩ := at_T27 (Kd.R_reads' HO_30.out).2.2 x33_3 p971 q971
                   obtain rfl : ad969 = ad971 := (by injection e971)
                   replace p971 := eq_true p971
                   replace q971 := eq_true q971
                   refine start_ (n := 16) (S := fun w' => w'.cell? (ad969.add (((ji396)).toNat * 2)) = some (.int .i64 ((rd_T27 t965 (ji396)).f0)) ∧ w'.cell? ⟨(ad969.add (((ji396)).toNat * 2)).block, (ad969.add (((ji396)).toNat * 2)).off + 1, none⟩ = some (.int .u32 ((rd_T27 t965 (ji396)).f1)) ∧ w'.cell? (ad969.add ((x33_3).toNat * 2)) = some (.int .i64 ((rd_T27 t965 x33_3).f0)) ∧ w'.cell? ⟨(ad969.add ((x33_3).toNat * 2)).block, (ad969.add ((x33_3).toNat * 2)).off + 1, none⟩ = some (.int .u32 ((rd_T27 t965 x33_3).f1))) (ds := []) #[false, false, false, false, false, false, false, false, false, false, false, false, false, false, false, false] (by kernel_rfl) rfl rfl ⟨hx970_0, hx970_1, hx971_0, hx971_1⟩ (fun hHeld => ?_); refine with_tabW laws_FnLeast.tab32 laws_FnLeast.bits32 (fun HT_ HW_ => ?_)
                   generalize w404.drew = w405 at HO_30 BK924 BK931 BK934 BK938 BK942 BK946 BK950 BK958 HB hx970_0 hx970_1 hx971_0 hx971_1 hHeld ⊢
                   refine pure_ (i := 0) (N := some 208) (v := ?_) (a' := ?_) #[true, false, false, false, false, false, false, false, false, false, false, false, false, false, false, false] rfl rfl (any_of HT_.out (by kernel_rfl)) (fun _ _ _ h => h) (Or.inl ⟨by rfl, ?_⟩) ?_ ?_
                   rotate_left
                   ·intro w'
                    go_simp
                    with_reducible rfl
                   rotate_left
                   ·simp only [Act.put, List.setIfInBounds_toArray, List.set_cons_zero, List.set_cons_succ, i64_w, i32_w]
                    rfl
                   refine pure_ (i := 1) (N := some 209) (v := ?_) (a' := ?_) #[true, true, false, false, false, false, false, false, false, false, false, false, false, false, false, false] rfl rfl (any_of HT_.out (by kernel_rfl)) (fun _ _ _ h => h) (Or.inl ⟨by rfl, ?_⟩) ?_ ?_
                   rotate_left
                   ·intro w'
                    go_simp
                    with_reducible rfl
                   rotate_left
                   ·simp only [Act.put, List.setIfInBounds_toArray, List.set_cons_zero, List.set_cons_succ, i64_w, i32_w]
                    rfl
                   refine pure_ (i := 2) (N := some 210) (v := ?_) (a' := ?_) #[true, true, true, false, false, false, false, false, false, false, false, false, false, false, false, false] rfl rfl (any_of HT_.out (by kernel_rfl)) (fun _ _ _ h => h) (Or.inl ⟨by rfl, ?_⟩) ?_ ?_
                   rotate_left
                   ·intro w'
                    go_simp
                    with_reducible rfl
                   rotate_left
                   ·simp only [Act.put, List.setIfInBounds_toArray, List.set_cons_zero, List.set_cons_succ, i64_w, i32_w]
                    rfl
                   refine pure_ (i := 3) (N := some 211) (v := ?_) (a' := ?_) #[true, true, true, true, false, false, false, false, false, false, false, false, false, false, false, false] rfl rfl (any_of HT_.out (by kernel_rfl)) (fun _ _ _ h => h) (Or.inl ⟨by rfl, ?_⟩) ?_ ?_
                   rotate_left
                   ·intro w'
                    go_simp
                    with_reducible rfl
                   rotate_left
                   ·simp only [Act.put, List.setIfInBounds_toArray, List.set_cons_zero, List.set_cons_succ, i64_w, i32_w]
                    rfl
                   refine pure_ (i := 4) (N := some 212) (v := ?_) (a' := ?_) #[true, true, true, true, true, false, false, false, false, false, false, false, false, false, false, false] rfl rfl (any_of HT_.out (by kernel_rfl)) (fun _ _ _ h => h) (Or.inl ⟨by rfl, ?_⟩) ?_ ?_
                   rotate_left
                   ·intro w'
                    go_simp
                    with_reducible rfl
                   rotate_left
                   ·simp only [Act.put, List.setIfInBounds_toArray, List.set_cons_zero, List.set_cons_succ, i64_w, i32_w]
                    rfl
                   refine pure_ (i := 5) (N := some 213) (v := ?_) (a' := ?_) #[true, true, true, true, true, true, false, false, false, false, false, false, false, false, false, false] rfl rfl (any_of HT_.out (by kernel_rfl)) (fun _ _ _ h => h) (Or.inl ⟨by rfl, ?_⟩) ?_ ?_
                   rotate_left
                   ·intro w'
                    go_simp
                    with_reducible rfl
                   rotate_left
                   ·simp only [Act.put, List.setIfInBounds_toArray, List.set_cons_zero, List.set_cons_succ, i64_w, i32_w]
                    rfl
                   refine pure_ (i := 6) (N := some 214) (v := ?_) (a' := ?_) #[true, true, true, true, true, true, true, false, false, false, false, false, false, false, false, false] rfl rfl (any_of HT_.out (by kernel_rfl)) (fun _ _ _ h => h) (Or.inl ⟨by rfl, ?_⟩) ?_ ?_
                   rotate_left
                   ·intro w'
                    go_simp
                    with_reducible rfl
                   rotate_left
                   ·simp only [Act.put, List.setIfInBounds_toArray, List.set_cons_zero, List.set_cons_succ, i64_w, i32_w]
                    rfl
                   refine pure_ (i := 7) (N := some 215) (v := ?_) (a' := ?_) #[true, true, true, true, true, true, true, true, false, false, false, false, false, false, false, false] rfl rfl (any_of HT_.out (by kernel_rfl)) (fun _ _ _ h => h) (Or.inl ⟨by rfl, ?_⟩) ?_ ?_
                   rotate_left
                   ·intro w'
                    go_simp
                    with_reducible rfl
                   rotate_left
                   ·simp only [Act.put, List.setIfInBounds_toArray, List.set_cons_zero, List.set_cons_succ, i64_w, i32_w]
                    rfl
                   refine pure_ (i := 9) (N := some 217) (v := ?_) (a' := ?_) #[true, true, true, true, true, true, true, true, false, true, false, false, false, false, false, false] rfl rfl (any_of HT_.out (by kernel_rfl)) (fun _ _ _ h => h) (Or.inl ⟨by rfl, ?_⟩) ?_ ?_
                   rotate_left
                   ·intro w'
                    go_simp
                    with_reducible rfl
                   rotate_left
                   ·simp only [Act.put, List.setIfInBounds_toArray, List.set_cons_zero, List.set_cons_succ, i64_w, i32_w]
                    rfl
                   refine pure_ (i := 10) (N := some 218) (v := ?_) (a' := ?_) #[true, true, true, true, true, true, true, true, false, true, true, false, false, false, false, false] rfl rfl (any_of HT_.out (by kernel_rfl)) (fun _ _ _ h => h) (Or.inl ⟨by rfl, ?_⟩) ?_ ?_
                   rotate_left
                   ·intro w'
                    go_simp
                    with_reducible rfl
                   rotate_left
                   ·simp only [Act.put, List.setIfInBounds_toArray, List.set_cons_zero, List.set_cons_succ, i64_w, i32_w]
                    rfl
                   refine pure_ (i := 11) (N := some 219) (v := ?_) (a' := ?_) #[true, true, true, true, true, true, true, true, false, true, true, true, false, false, false, false] rfl rfl (any_of HT_.out (by kernel_rfl)) (fun _ _ _ h => h) (Or.inl ⟨by rfl, ?_⟩) ?_ ?_
                   rotate_left
                   ·intro w'
                    go_simp
                    with_reducible rfl
                   rotate_left
                   ·simp only [Act.put, List.setIfInBounds_toArray, List.set_cons_zero, List.set_cons_succ, i64_w, i32_w]
                    rfl
                   refine pure_ (i := 12) (N := some 220) (v := ?_) (a' := ?_) #[true, true, true, true, true, true, true, true, false, true, true, true, true, false, false, false] rfl rfl (any_of HT_.out (by kernel_rfl)) (fun _ _ _ h => h) (Or.inl ⟨by rfl, ?_⟩) ?_ ?_
                   rotate_left
                   ·intro w'
                    go_simp
                    with_reducible rfl
                   rotate_left
                   ·simp only [Act.put, List.setIfInBounds_toArray, List.set_cons_zero, List.set_cons_succ, i64_w, i32_w]
                    rfl
                   refine take_ (i := 8) (N := some 216) (v := ?_) (a' := ?_) #[true, true, true, true, true, true, true, true, true, true, true, true, true, false, false, false] rfl rfl (take_ofW HT_.out HW_.out (by kernel_rfl)) (fun _ _ _ h => h) (Or.inl ⟨by rfl, ?_⟩) hHeld ?_ ?_
                   rotate_left
                   ·rintro w' ⟨s0, s1, s2, s3⟩
                    go_simp
                    with_reducible rfl
                   rotate_left
                   ·simp only [Act.put, List.setIfInBounds_toArray, List.set_cons_zero, List.set_cons_succ, i64_w, i32_w]
                    rfl
                   refine take_ (i := 13) (N := some 221) (v := ?_) (a' := ?_) #[true, true, true, true, true, true, true, true, true, true, true, true, true, true, false, false] rfl rfl (take_ofW HT_.out HW_.out (by kernel_rfl)) (fun _ _ _ h => h) (Or.inl ⟨by rfl, ?_⟩) hHeld ?_ ?_
                   rotate_left
                   ·rintro w' ⟨s0, s1, s2, s3⟩
                    go_simp
                    with_reducible rfl
                   rotate_left
                   ·simp only [Act.put, List.setIfInBounds_toArray, List.set_cons_zero, List.set_cons_succ, i64_w, i32_w]
                    rfl
                   refine pure_ (i := 14) (N := some 222) (v := ?_) (a' := ?_) #[true, true, true, true, true, true, true, true, true, true, true, true, true, true, true, false] rfl rfl (any_of HT_.out (by kernel_rfl)) (fun _ _ _ h => h) (Or.inl ⟨by rfl, ?_⟩) ?_ ?_
                   rotate_left
                   ·intro w'
                    go_simp
                    with_reducible rfl
                   rotate_left
                   ·simp only [Act.put, List.setIfInBounds_toArray, List.set_cons_zero, List.set_cons_succ, i64_w, i32_w]
                    rfl
                   refine pure_ (i := 15) (N := some 223) (v := ?_) (a' := ?_) #[true, true, true, true, true, true, true, true, true, true, true, true, true, true, true, true] rfl rfl (any_of HT_.out (by kernel_rfl)) (fun _ _ _ h => h) (Or.inl ⟨by rfl, ?_⟩) ?_ ?_
                   rotate_left
                   ·intro w'
                    go_simp
                    with_reducible rfl
                   rotate_left
                   ·simp only [Act.put, List.setIfInBounds_toArray, List.set_cons_zero, List.set_cons_succ, i64_w, i32_w]
                    rfl
                   refine done_ (done_of HT_.out (by kernel_rfl)) ?_
                   try go_wp2
                   go_roundg k3
                   case measure => have := HJ16.out; have := HJ362.out; have := HK3.out; omega
                   case rel => exact ⟨(wrap64 (x32_3 + 1)), (wrap64 (x33_3 + 1)), (by first | rfl | (simp; done) | (simp [*]; done)), (by first | rfl | (simp; done) | (simp [*]; done)), H', ⟨by have := HJ16.out; have := HJ362.out; have := HK3.out; omega⟩, ⟨by (with_reducible repeat (first | apply Kd.R_alloc | apply Kd.R_drewN | apply Kd.R_drew)); exact HO_30.out⟩, ⟨by (with_reducible repeat (first | refine blk_drewN ?_ _ | refine blk_drew ?_ | refine blk_alloc ?_ _)); exact BK924.out⟩, ⟨by (with_reducible repeat (first | refine blk_drewN ?_ _ | refine blk_drew ?_ | refine blk_alloc ?_ _)); exact BK931.out⟩, ⟨by (with_reducible repeat (first | refine blk_drewN ?_ _ | refine blk_drew ?_ | refine blk_alloc ?_ _)); exact BK934.out⟩, ⟨by (with_reducible repeat (first | refine blk_drewN ?_ _ | refine blk_drew ?_ | refine blk_alloc ?_ _)); exact BK938.out⟩, ⟨by (with_reducible repeat (first | refine blk_drewN ?_ _ | refine blk_drew ?_ | refine blk_alloc ?_ _)); exact BK942.out⟩, ⟨by (with_reducible repeat (first | refine blk_drewN ?_ _ | refine blk_drew ?_ | refine blk_alloc ?_ _)); exact BK946.out⟩, ⟨by (with_reducible repeat (first | refine blk_drewN ?_ _ | refine blk_drew ?_ | refine blk_alloc ?_ _)); exact BK950.out⟩, ⟨by (with_reducible repeat (first | refine blk_drewN ?_ _ | refine blk_drew ?_ | refine blk_alloc ?_ _)); exact BK958.out⟩, ⟨by repeat (first | (with_reducible first | exact HB.out | apply below_alloc | apply pw_below_drewN | apply below_drew1 | refine below_set ?_ GE924.out | refine below_set ?_ GE931.out | refine below_set ?_ GE934.out | refine below_set ?_ GE938.out | refine below_set ?_ GE942.out | refine below_set ?_ GE946.out | refine below_set ?_ GE950.out | refine below_set ?_ GE958.out) | exact HB.out)⟩⟩
                 ·rw [if_neg c398] at H
                  exact absurd H (by simp)
                ·rw [if_neg c397] at H
                 exact absurd H (by simp)
               ·rw [if_neg c395] at H
                have c395b0 : decide (0 < x33_3) = false := decide_eq_false c395
                clear c395
                have H' := Aside0.mk H
                clear H
                obtain ⟨Ao406, co406, eo406⟩ := Kd.R_slice HO_30.out
                subst eo406
                try go_wp2
                have n0_ := Aside0.mk (Kd.R_drew HO_30.out)
                have n1_ := Aside0.mk (blk_drew BK924.out)
                have n2_ := Aside0.mk (blk_drew BK931.out)
                have n3_ := Aside0.mk (blk_drew BK934.out)
                have n4_ := Aside0.mk (blk_drew BK938.out)
                have n5_ := Aside0.mk (blk_drew BK942.out)
                have n6_ := Aside0.mk (blk_drew BK946.out)
                have n7_ := Aside0.mk (blk_drew BK950.out)
                have n8_ := Aside0.mk (blk_drew BK958.out)
                have n9_ := Aside0.mk (below_drew1 HB.out)
                clear HO_30 BK924 BK931 BK934 BK938 BK942 BK946 BK950 BK958 HB
                have HO_30 := n0_
                have BK924 := n1_
                have BK931 := n2_
                have BK934 := n3_
                have BK938 := n4_
                have BK942 := n5_
                have BK946 := n6_
                have BK950 := n7_
                have BK958 := n8_
                have HB := n9_
                clear n0_ n1_ n2_ n3_ n4_ n5_ n6_ n7_ n8_ n9_
                have p969 : 0 ≤ (x33_3 : Int) := of_decide_eq_true (by first | (with_reducible assumption) | assumption)
                have q969 : x33_3 < (t965.length : Int) := of_decide_eq_true (by first | (with_reducible assumption) | assumption)
                obtain ⟨ad969, e969, hx969_0, hx969_1⟩ := at_T27 (Kd.R_reads' HO_30.out).2.2 x33_3 p969 q969
                cases e969
                replace p969 := eq_true p969
                replace q969 := eq_true q969
                refine start_ (n := 6) (S := fun w' => w'.cell? ⟨gb938, 0, none⟩ = some (.int .i64 t935) ∧ w'.cell? ⟨gb938, 1, none⟩ = some (.int .u32 t936) ∧ w'.cell? (ad969.add ((x33_3).toNat * 2)) = some (.int .i64 ((rd_T27 t965 x33_3).f0)) ∧ w'.cell? ⟨(ad969.add ((x33_3).toNat * 2)).block, (ad969.add ((x33_3).toNat * 2)).off + 1, none⟩ = some (.int .u32 ((rd_T27 t965 x33_3).f1))) (ds := []) #[false, false, false, false, false, false] (by kernel_rfl) rfl rfl ⟨(blk_cell BK938.out 0).trans rfl, (blk_cell BK938.out 1).trans rfl, hx969_0, hx969_1⟩ (fun hHeld => ?_)
                generalize wr.drew = w407 at HO_30 BK924 BK931 BK934 BK938 BK942 BK946 BK950 BK958 HB hx969_0 hx969_1 hHeld ⊢
                refine pure_ (i := 0) (N := some 197) (v := ?_) (a' := ?_) #[true, false, false, false, false, false] rfl rfl (by kernel_rfl) (fun _ _ _ h => h) (Or.inl ⟨by rfl, ?_⟩) ?_ ?_
                rotate_left
                ·intro w'
                 go_simp
                 with_reducible rfl
                rotate_left
                ·simp only [Act.put, List.setIfInBounds_toArray, List.set_cons_zero, List.set_cons_succ, i64_w, i32_w]
                 rfl
                refine pure_ (i := 1) (N := some 198) (v := ?_) (a' := ?_) #[true, true, false, false, false, false] rfl rfl (by kernel_rfl) (fun _ _ _ h => h) (Or.inl ⟨by rfl, ?_⟩) ?_ ?_
                rotate_left
                ·intro w'
                 go_simp
                 with_reducible rfl
                rotate_left
                ·simp only [Act.put, List.setIfInBounds_toArray, List.set_cons_zero, List.set_cons_succ, i64_w, i32_w]
                 rfl
                refine pure_ (i := 2) (N := some 199) (v := ?_) (a' := ?_) #[true, true, true, false, false, false] rfl rfl (by kernel_rfl) (fun _ _ _ h => h) (Or.inl ⟨by rfl, ?_⟩) ?_ ?_
                rotate_left
                ·intro w'
                 go_simp
                 with_reducible rfl
                rotate_left
                ·simp only [Act.put, List.setIfInBounds_toArray, List.set_cons_zero, List.set_cons_succ, i64_w, i32_w]
                 rfl
                refine take_ (i := 3) (N := some 200) (v := ?_) (a' := ?_) #[true, true, true, true, false, false] rfl rfl (by kernel_rfl) (fun _ _ _ h => h) (Or.inl ⟨by rfl, ?_⟩) hHeld ?_ ?_
                rotate_left
                ·rintro w' ⟨s0, s1, s2, s3⟩
                 go_simp
                 with_reducible rfl
                rotate_left
                ·simp only [Act.put, List.setIfInBounds_toArray, List.set_cons_zero, List.set_cons_succ, i64_w, i32_w]
                 rfl
                refine take_ (i := 4) (N := some 201) (v := ?_) (a' := ?_) #[true, true, true, true, true, false] rfl rfl (by kernel_rfl) (fun _ _ _ h => h) (Or.inl ⟨by rfl, ?_⟩) hHeld ?_ ?_
                rotate_left
                ·rintro w' ⟨s0, s1, s2, s3⟩
                 go_simp
                 with_reducible rfl
                rotate_left
                ·simp only [Act.put, List.setIfInBounds_toArray, List.set_cons_zero, List.set_cons_succ, i64_w, i32_w]
                 rfl
                refine pure_ (i := 5) (N := some 202) (v := ?_) (a' := ?_) #[true, true, true, true, true, true] rfl rfl (by kernel_rfl) (fun _ _ _ h => h) (Or.inl ⟨by rfl, ?_⟩) ?_ ?_
                rotate_left
                ·intro w'
                 go_simp
                 with_reducible rfl
                rotate_left
                ·simp only [Act.put, List.setIfInBounds_toArray, List.set_cons_zero, List.set_cons_succ, i64_w, i32_w]
                 rfl
                refine done_ (by kernel_rfl) ?_
                try go_wp2
                have n0_ := Aside0.mk (Kd.R_drew HO_30.out)
                have n1_ := Aside0.mk (blk_drew BK924.out)
                have n2_ := Aside0.mk (blk_drew BK931.out)
                have n3_ := Aside0.mk (blk_drew BK934.out)
                have n4_ := Aside0.mk (blk_drew BK938.out)
                have n5_ := Aside0.mk (blk_drew BK942.out)
                have n6_ := Aside0.mk (blk_drew BK946.out)
                have n7_ := Aside0.mk (blk_drew BK950.out)
                have n8_ := Aside0.mk (blk_drew BK958.out)
                have n9_ := Aside0.mk (below_drew1 HB.out)
                clear HO_30 BK924 BK931 BK934 BK938 BK942 BK946 BK950 BK958 HB
                have HO_30 := n0_
                have BK924 := n1_
                have BK931 := n2_
                have BK934 := n3_
                have BK938 := n4_
                have BK942 := n5_
                have BK946 := n6_
                have BK950 := n7_
                have BK958 := n8_
                have HB := n9_
                clear n0_ n1_ n2_ n3_ n4_ n5_ n6_ n7_ n8_ n9_
                refine start_ (n := 16) (S := fun w' => True) (ds := []) #[false, false, false, false, false, false, false, false, false, false, false, false, false, false, false, false] (by kernel_rfl) rfl rfl trivial (fun hHeld => ?_); refine with_tabW laws_FnLeast.tab32 laws_FnLeast.bits32 (fun HT_ HW_ => ?_)
                generalize w407.drew = w408 at HO_30 BK924 BK931 BK934 BK938 BK942 BK946 BK950 BK958 HB hHeld ⊢
                refine pure_ (i := 0) (N := some 208) (v := ?_) (a' := ?_) #[true, false, false, false, false, false, false, false, false, false, false, false, false, false, false, false] rfl rfl (any_of HT_.out (by kernel_rfl)) (fun _ _ _ h => h) (Or.inl ⟨by rfl, ?_⟩) ?_ ?_
                rotate_left
                ·intro w'
                 go_simp
                 with_reducible rfl
                rotate_left
                ·simp only [Act.put, List.setIfInBounds_toArray, List.set_cons_zero, List.set_cons_succ, i64_w, i32_w]
                 rfl
                refine pure_ (i := 1) (N := some 209) (v := ?_) (a' := ?_) #[true, true, false, false, false, false, false, false, false, false, false, false, false, false, false, false] rfl rfl (any_of HT_.out (by kernel_rfl)) (fun _ _ _ h => h) (Or.inl ⟨by rfl, ?_⟩) ?_ ?_
                rotate_left
                ·intro w'
                 go_simp
                 with_reducible rfl
                rotate_left
                ·simp only [Act.put, List.setIfInBounds_toArray, List.set_cons_zero, List.set_cons_succ, i64_w, i32_w]
                 rfl
                refine pure_ (i := 2) (N := some 210) (v := ?_) (a' := ?_) #[true, true, true, false, false, false, false, false, false, false, false, false, false, false, false, false] rfl rfl (any_of HT_.out (by kernel_rfl)) (fun _ _ _ h => h) (Or.inl ⟨by rfl, ?_⟩) ?_ ?_
                rotate_left
                ·intro w'
                 go_simp
                 with_reducible rfl
                rotate_left
                ·simp only [Act.put, List.setIfInBounds_toArray, List.set_cons_zero, List.set_cons_succ, i64_w, i32_w]
                 rfl
                refine pure_ (i := 3) (N := some 211) (v := undef) (a' := ?_) #[true, true, true, true, false, false, false, false, false, false, false, false, false, false, false, false] rfl rfl (any_of HT_.out (by kernel_rfl)) (fun _ _ _ h => h) (Or.inr ⟨by rfl, rfl⟩) ?_ ?_
                rotate_left
                ·simp only [Act.put, List.setIfInBounds_toArray, List.set_cons_zero, List.set_cons_succ, i64_w, i32_w]
                 rfl
                refine pure_ (i := 4) (N := some 212) (v := undef) (a' := ?_) #[true, true, true, true, true, false, false, false, false, false, false, false, false, false, false, false] rfl rfl (any_of HT_.out (by kernel_rfl)) (fun _ _ _ h => h) (Or.inr ⟨by rfl, rfl⟩) ?_ ?_
                rotate_left
                ·simp only [Act.put, List.setIfInBounds_toArray, List.set_cons_zero, List.set_cons_succ, i64_w, i32_w]
                 rfl
                refine pure_ (i := 5) (N := some 213) (v := undef) (a' := ?_) #[true, true, true, true, true, true, false, false, false, false, false, false, false, false, false, false] rfl rfl (any_of HT_.out (by kernel_rfl)) (fun _ _ _ h => h) (Or.inr ⟨by rfl, rfl⟩) ?_ ?_
                rotate_left
                ·simp only [Act.put, List.setIfInBounds_toArray, List.set_cons_zero, List.set_cons_succ, i64_w, i32_w]
                 rfl
                refine pure_ (i := 6) (N := some 214) (v := undef) (a' := ?_) #[true, true, true, true, true, true, true, false, false, false, false, false, false, false, false, false] rfl rfl (any_of HT_.out (by kernel_rfl)) (fun _ _ _ h => h) (Or.inr ⟨by rfl, rfl⟩) ?_ ?_
                rotate_left
                ·simp only [Act.put, List.setIfInBounds_toArray, List.set_cons_zero, List.set_cons_succ, i64_w, i32_w]
                 rfl
                refine pure_ (i := 7) (N := some 215) (v := undef) (a' := ?_) #[true, true, true, true, true, true, true, true, false, false, false, false, false, false, false, false] rfl rfl (any_of HT_.out (by kernel_rfl)) (fun _ _ _ h => h) (Or.inr ⟨by rfl, rfl⟩) ?_ ?_
                rotate_left
                ·simp only [Act.put, List.setIfInBounds_toArray, List.set_cons_zero, List.set_cons_succ, i64_w, i32_w]
                 rfl
                refine pure_ (i := 8) (N := some 216) (v := undef) (a' := ?_) #[true, true, true, true, true, true, true, true, true, false, false, false, false, false, false, false] rfl rfl (any_of HT_.out (by kernel_rfl)) (fun _ _ _ h => h) (Or.inr ⟨by rfl, rfl⟩) ?_ ?_
                rotate_left
                ·simp only [Act.put, List.setIfInBounds_toArray, List.set_cons_zero, List.set_cons_succ, i64_w, i32_w]
                 rfl
                refine pure_ (i := 9) (N := some 217) (v := undef) (a' := ?_) #[true, true, true, true, true, true, true, true, true, true, false, false, false, false, false, false] rfl rfl (any_of HT_.out (by kernel_rfl)) (fun _ _ _ h => h) (Or.inr ⟨by rfl, rfl⟩) ?_ ?_
                rotate_left
                ·simp only [Act.put, List.setIfInBounds_toArray, List.set_cons_zero, List.set_cons_succ, i64_w, i32_w]
                 rfl
                refine pure_ (i := 10) (N := some 218) (v := undef) (a' := ?_) #[true, true, true, true, true, true, true, true, true, true, true, false, false, false, false, false] rfl rfl (any_of HT_.out (by kernel_rfl)) (fun _ _ _ h => h) (Or.inr ⟨by rfl, rfl⟩) ?_ ?_
                rotate_left
                ·simp only [Act.put, List.setIfInBounds_toArray, List.set_cons_zero, List.set_cons_succ, i64_w, i32_w]
                 rfl
                refine pure_ (i := 11) (N := some 219) (v := undef) (a' := ?_) #[true, true, true, true, true, true, true, true, true, true, true, true, false, false, false, false] rfl rfl (any_of HT_.out (by kernel_rfl)) (fun _ _ _ h => h) (Or.inr ⟨by rfl, rfl⟩) ?_ ?_
                rotate_left
                ·simp only [Act.put, List.setIfInBounds_toArray, List.set_cons_zero, List.set_cons_succ, i64_w, i32_w]
                 rfl
                refine pure_ (i := 12) (N := some 220) (v := undef) (a' := ?_) #[true, true, true, true, true, true, true, true, true, true, true, true, true, false, false, false] rfl rfl (any_of HT_.out (by kernel_rfl)) (fun _ _ _ h => h) (Or.inr ⟨by rfl, rfl⟩) ?_ ?_
                rotate_left
                ·simp only [Act.put, List.setIfInBounds_toArray, List.set_cons_zero, List.set_cons_succ, i64_w, i32_w]
                 rfl
                refine pure_ (i := 13) (N := some 221) (v := undef) (a' := ?_) #[true, true, true, true, true, true, true, true, true, true, true, true, true, true, false, false] rfl rfl (any_of HT_.out (by kernel_rfl)) (fun _ _ _ h => h) (Or.inr ⟨by rfl, rfl⟩) ?_ ?_
                rotate_left
                ·simp only [Act.put, List.setIfInBounds_toArray, List.set_cons_zero, List.set_cons_succ, i64_w, i32_w]
                 rfl
                refine pure_ (i := 14) (N := some 222) (v := undef) (a' := ?_) #[true, true, true, true, true, true, true, true, true, true, true, true, true, true, true, false] rfl rfl (any_of HT_.out (by kernel_rfl)) (fun _ _ _ h => h) (Or.inr ⟨by rfl, rfl⟩) ?_ ?_
                rotate_left
                ·simp only [Act.put, List.setIfInBounds_toArray, List.set_cons_zero, List.set_cons_succ, i64_w, i32_w]
                 rfl
                refine pure_ (i := 15) (N := some 223) (v := ?_) (a' := ?_) #[true, true, true, true, true, true, true, true, true, true, true, true, true, true, true, true] rfl rfl (any_of HT_.out (by kernel_rfl)) (fun _ _ _ h => h) (Or.inl ⟨by rfl, ?_⟩) ?_ ?_
                rotate_left
                ·intro w'
                 go_simp
                 with_reducible rfl
                rotate_left
                ·simp only [Act.put, List.setIfInBounds_toArray, List.set_cons_zero, List.set_cons_succ, i64_w, i32_w]
                 rfl
                refine done_ (done_of HT_.out (by kernel_rfl)) ?_
                try go_wp2
                go_roundg k3
                case measure => have := HJ16.out; have := HJ362.out; have := HK3.out; omega
                case rel => exact ⟨(wrap64 (x32_3 + 1)), (wrap64 (x33_3 + 1)), (by first | rfl | (simp; done) | (simp [*]; done)), (by first | rfl | (simp; done) | (simp [*]; done)), H', ⟨by have := HJ16.out; have := HJ362.out; have := HK3.out; omega⟩, ⟨by (with_reducible repeat (first | apply Kd.R_alloc | apply Kd.R_drewN | apply Kd.R_drew)); exact HO_30.out⟩, ⟨by (with_reducible repeat (first | refine blk_drewN ?_ _ | refine blk_drew ?_ | refine blk_alloc ?_ _)); exact BK924.out⟩, ⟨by (with_reducible repeat (first | refine blk_drewN ?_ _ | refine blk_drew ?_ | refine blk_alloc ?_ _)); exact BK931.out⟩, ⟨by (with_reducible repeat (first | refine blk_drewN ?_ _ | refine blk_drew ?_ | refine blk_alloc ?_ _)); exact BK934.out⟩, ⟨by (with_reducible repeat (first | refine blk_drewN ?_ _ | refine blk_drew ?_ | refine blk_alloc ?_ _)); exact BK938.out⟩, ⟨by (with_reducible repeat (first | refine blk_drewN ?_ _ | refine blk_drew ?_ | refine blk_alloc ?_ _)); exact BK942.out⟩, ⟨by (with_reducible repeat (first | refine blk_drewN ?_ _ | refine blk_drew ?_ | refine blk_alloc ?_ _)); exact BK946.out⟩, ⟨by (with_reducible repeat (first | refine blk_drewN ?_ _ | refine blk_drew ?_ | refine blk_alloc ?_ _)); exact BK950.out⟩, ⟨by (with_reducible repeat (first | refine blk_drewN ?_ _ | refine blk_drew ?_ | refine blk_alloc ?_ _)); exact BK958.out⟩, ⟨by repeat (first | (with_reducible first | exact HB.out | apply below_alloc | apply pw_below_drewN | apply below_drew1 | refine below_set ?_ GE924.out | refine below_set ?_ GE931.out | refine below_set ?_ GE934.out | refine below_set ?_ GE938.out | refine below_set ?_ GE942.out | refine below_set ?_ GE946.out | refine below_set ?_ GE950.out | refine below_set ?_ GE958.out) | exact HB.out)⟩⟩
              ·rw [if_neg c394] at H
               have c394b0 : (x33_3 == t959) = false := beq_eq_false_iff_ne.mpr c394
               have c394b1 : (x33_3 != t959) = true := bne_iff_ne.mpr c394
               exact absurd H (by simp)
             ·rw [if_neg c393] at H
              have c393b0 : (((rd_T27 t965 x33_3).f0) == t935 && (((rd_T27 t965 x33_3).f1) == t936)) = false := by simpa using c393
              (try (have c393b1 : decide (((rd_T27 t965 x33_3).f0) = t935 && (((rd_T27 t965 x33_3).f1) == t936)) = false := by simpa using c393))
              (try (have c393b2 : (((rd_T27 t965 x33_3).f0) == t935 && (((rd_T27 t965 x33_3).f1) == t936)) = false := by simpa using c393))
              (try (have c393b3 : ¬ (((rd_T27 t965 x33_3).f0) = t935 && (((rd_T27 t965 x33_3).f1) == t936)) := by simpa using c393))
              clear c393
              by_cases c411 : x33_3 > 0
              ·rw [if_pos c411] at H
               have c411b0 : decide (0 < x33_3) = true := decide_eq_true c411
               clear c411
               obtain ⟨ji412, hji412⟩ : ∃ j_ : Int, (wrap64 (x33_3 - 1)) = j_ := ⟨_, rfl⟩
               replace H : (if 0 ≤ (ji412) then (if (ji412) < (t965.length : Int) then (if ((rd_T27 t965 (ji412)).f1) ≥ ((rd_T27 t965 x33_3).f1) then (some false) else (laws_FnLeast.l0 k3 t959 t965 t966 x32_3 (wrap64 (x33_3 + 1)) t935 t936)) else (none)) else (none)) = some true := by first | (rw [hji412] at H; exact H) | (simp only [hji412] at H ⊢; exact H)
               have hji412w : (IntKind.i64.wrap (x33_3 - 1)) = ji412 := (i64_w _).trans hji412
               by_cases c413 : 0 ≤ (ji412)
               ·rw [if_pos c413] at H
                have c413b0 : decide (0 ≤ (ji412)) = true := decide_eq_true c413
                clear c413
                by_cases c414 : (ji412) < (t965.length : Int)
                ·rw [if_pos c414] at H
                 have c414b0 : decide ((ji412) < (t965.length : Int)) = true := decide_eq_true c414
                 clear c414
                 by_cases c415 : ((rd_T27 t965 (ji412)).f1) ≥ ((rd_T27 t965 x33_3).f1)
                 ·rw [if_pos c415] at H
                  have c415b0 : decide (((rd_T27 t965 x33_3).f1) ≤ ((rd_T27 t965 (ji412)).f1)) = true := decide_eq_true c415
                  clear c415
                  exact absurd H (by simp)
                 ·rw [if_neg c415] at H
                  have c415b0 : decide (((rd_T27 t965 x33_3).f1) ≤ ((rd_T27 t965 (ji412)).f1)) = false := decide_eq_false c415
                  clear c415
                  have H' := Aside0.mk H
                  clear H
                  obtain ⟨Ao419, co419, eo419⟩ := Kd.R_slice HO_30.out
                  subst eo419
                  try go_wp2
                  have n0_ := Aside0.mk (Kd.R_drew HO_30.out)
                  have n1_ := Aside0.mk (blk_drew BK924.out)
                  have n2_ := Aside0.mk (blk_drew BK931.out)
                  have n3_ := Aside0.mk (blk_drew BK934.out)
                  have n4_ := Aside0.mk (blk_drew BK938.out)
                  have n5_ := Aside0.mk (blk_drew BK942.out)
                  have n6_ := Aside0.mk (blk_drew BK946.out)
                  have n7_ := Aside0.mk (blk_drew BK950.out)
                  have n8_ := Aside0.mk (blk_drew BK958.out)
                  have n9_ := Aside0.mk (below_drew1 HB.out)
                  clear HO_30 BK924 BK931 BK934 BK938 BK942 BK946 BK950 BK958 HB
                  have HO_30 := n0_
                  have BK924 := n1_
                  have BK931 := n2_
                  have BK934 := n3_
                  have BK938 := n4_
                  have BK942 := n5_
                  have BK946 := n6_
                  have BK950 := n7_
                  have BK958 := n8_
                  have HB := n9_
                  clear n0_ n1_ n2_ n3_ n4_ n5_ n6_ n7_ n8_ n9_
                  have p969 : 0 ≤ (x33_3 : Int) := of_decide_eq_true (by first | (with_reducible assumption) | assumption)
                  have q969 : x33_3 < (t965.length : Int) := of_decide_eq_true (by first | (with_reducible assumption) | assumption)
                  obtain ⟨ad969, e969, hx969_0, hx969_1⟩ := at_T27 (Kd.R_reads' HO_30.out).2.2 x33_3 p969 q969
                  cases e969
                  replace p969 := eq_true p969
                  replace q969 := eq_true q969
                  refine start_ (n := 6) (S := fun w' => w'.cell? ⟨gb938, 0, none⟩ = some (.int .i64 t935) ∧ w'.cell? ⟨gb938, 1, none⟩ = some (.int .u32 t936) ∧ w'.cell? (ad969.add ((x33_3).toNat * 2)) = some (.int .i64 ((rd_T27 t965 x33_3).f0)) ∧ w'.cell? ⟨(ad969.add ((x33_3).toNat * 2)).block, (ad969.add ((x33_3).toNat * 2)).off + 1, none⟩ = some (.int .u32 ((rd_T27 t965 x33_3).f1))) (ds := []) #[false, false, false, false, false, false] (by kernel_rfl) rfl rfl ⟨(blk_cell BK938.out 0).trans rfl, (blk_cell BK938.out 1).trans rfl, hx969_0, hx969_1⟩ (fun hHeld => ?_)
                  generalize wr.drew = w420 at HO_30 BK924 BK931 BK934 BK938 BK942 BK946 BK950 BK958 HB hx969_0 hx969_1 hHeld ⊢
                  refine pure_ (i := 0) (N := some 197) (v := ?_) (a' := ?_) #[true, false, false, false, false, false] rfl rfl (by kernel_rfl) (fun _ _ _ h => h) (Or.inl ⟨by rfl, ?_⟩) ?_ ?_
                  rotate_left
                  ·intro w'
                   go_simp
                   with_reducible rfl
                  rotate_left
                  ·simp only [Act.put, List.setIfInBounds_toArray, List.set_cons_zero, List.set_cons_succ, i64_w, i32_w]
                   rfl
                  refine pure_ (i := 1) (N := some 198) (v := ?_) (a' := ?_) #[true, true, false, false, false, false] rfl rfl (by kernel_rfl) (fun _ _ _ h => h) (Or.inl ⟨by rfl, ?_⟩) ?_ ?_
                  rotate_left
                  ·intro w'
                   go_simp
                   with_reducible rfl
                  rotate_left
                  ·simp only [Act.put, List.setIfInBounds_toArray, List.set_cons_zero, List.set_cons_succ, i64_w, i32_w]
                   rfl
                  refine pure_ (i := 2) (N := some 199) (v := ?_) (a' := ?_) #[true, true, true, false, false, false] rfl rfl (by kernel_rfl) (fun _ _ _ h => h) (Or.inl ⟨by rfl, ?_⟩) ?_ ?_
                  rotate_left
                  ·intro w'
                   go_simp
                   with_reducible rfl
                  rotate_left
                  ·simp only [Act.put, List.setIfInBounds_toArray, List.set_cons_zero, List.set_cons_succ, i64_w, i32_w]
                   rfl
                  refine take_ (i := 3) (N := some 200) (v := ?_) (a' := ?_) #[true, true, true, true, false, false] rfl rfl (by kernel_rfl) (fun _ _ _ h => h) (Or.inl ⟨by rfl, ?_⟩) hHeld ?_ ?_
                  rotate_left
                  ·rintro w' ⟨s0, s1, s2, s3⟩
                   go_simp
                   with_reducible rfl
                  rotate_left
                  ·simp only [Act.put, List.setIfInBounds_toArray, List.set_cons_zero, List.set_cons_succ, i64_w, i32_w]
                   rfl
                  refine take_ (i := 4) (N := some 201) (v := ?_) (a' := ?_) #[true, true, true, true, true, false] rfl rfl (by kernel_rfl) (fun _ _ _ h => h) (Or.inl ⟨by rfl, ?_⟩) hHeld ?_ ?_
                  rotate_left
                  ·rintro w' ⟨s0, s1, s2, s3⟩
                   go_simp
                   with_reducible rfl
                  rotate_left
                  ·simp only [Act.put, List.setIfInBounds_toArray, List.set_cons_zero, List.set_cons_succ, i64_w, i32_w]
                   rfl
                  refine pure_ (i := 5) (N := some 202) (v := ?_) (a' := ?_) #[true, true, true, true, true, true] rfl rfl (by kernel_rfl) (fun _ _ _ h => h) (Or.inl ⟨by rfl, ?_⟩) ?_ ?_
                  rotate_left
                  ·intro w'
                   go_simp
                   with_reducible rfl
                  rotate_left
                  ·simp only [Act.put, List.setIfInBounds_toArray, List.set_cons_zero, List.set_cons_succ, i64_w, i32_w]
                   rfl
                  refine done_ (by kernel_rfl) ?_
                  try go_wp2
                  have n0_ := Aside0.mk (Kd.R_drew HO_30.out)
                  have n1_ := Aside0.mk (blk_drew BK924.out)
                  have n2_ := Aside0.mk (blk_drew BK931.out)
                  have n3_ := Aside0.mk (blk_drew BK934.out)
                  have n4_ := Aside0.mk (blk_drew BK938.out)
                  have n5_ := Aside0.mk (blk_drew BK942.out)
                  have n6_ := Aside0.mk (blk_drew BK946.out)
                  have n7_ := Aside0.mk (blk_drew BK950.out)
                  have n8_ := Aside0.mk (blk_drew BK958.out)
                  have n9_ := Aside0.mk (below_drew1 HB.out)
                  clear HO_30 BK924 BK931 BK934 BK938 BK942 BK946 BK950 BK958 HB
                  have HO_30 := n0_
                  have BK924 := n1_
                  have BK931 := n2_
                  have BK934 := n3_
                  have BK938 := n4_
                  have BK942 := n5_
                  have BK946 := n6_
                  have BK950 := n7_
                  have BK958 := n8_
                  have HB := n9_
                  clear n0_ n1_ n2_ n3_ n4_ n5_ n6_ n7_ n8_ n9_
                  have p972 : 0 ≤ ((ji412) : Int) := of_decide_eq_true (by first | (with_reducible assumption) | assumption)
                  have q972 : (ji412) < (t965.length : Int) := of_decide_eq_true (by first | (with_reducible assumption) | assumption)
                  obtain ⟨ad972, e972, hx972_0, hx972_1⟩ := at_T27 (Kd.R_reads' HO_30.out).2.2 (ji412) p972 q972
                  obtain rfl : ad969 = ad972 := (by injection e972)
                  replace p972 := eq_true p972
                  replace q972 := eq_true q972
                  have p973 : 0 ≤ (x33_3 : Int) := of_decide_eq_true (by first | (with_reducible assumption) | assumption)
                  have q973 : x33_3 < (t965.length : Int) := of_decide_eq_true (by first | (with_reducible assumption) | assumption)
                  obtain ⟨ad973, e973, hx973_0, hx973_1⟩ := at_T27 (Kd.R_reads' HO_30.out).2.2 x33_3 p973 q973
                  obtain rfl : ad969 = ad973 := (by injection e973)
                  replace p973 := eq_true p973
                  replace q973 := eq_true q973
                  refine start_ (n := 16) (S := fun w' => w'.cell? (ad969.add (((ji412)).toNat * 2)) = some (.int .i64 ((rd_T27 t965 (ji412)).f0)) ∧ w'.cell? ⟨(ad969.add (((ji412)).toNat * 2)).block, (ad969.add (((ji412)).toNat * 2)).off + 1, none⟩ = some (.int .u32 ((rd_T27 t965 (ji412)).f1)) ∧ w'.cell? (ad969.add ((x33_3).toNat * 2)) = some (.int .i64 ((rd_T27 t965 x33_3).f0)) ∧ w'.cell? ⟨(ad969.add ((x33_3).toNat * 2)).block, (ad969.add ((x33_3).toNat * 2)).off + 1, none⟩ = some (.int .u32 ((rd_T27 t965 x33_3).f1))) (ds := []) #[false, false, false, false, false, false, false, false, false, false, false, false, false, false, false, false] (by kernel_rfl) rfl rfl ⟨hx972_0, hx972_1, hx973_0, hx973_1⟩ (fun hHeld => ?_); refine with_tabW laws_FnLeast.tab32 laws_FnLeast.bits32 (fun HT_ HW_ => ?_)
                  generalize w420.drew = w421 at HO_30 BK924 BK931 BK934 BK938 BK942 BK946 BK950 BK958 HB hx972_0 hx972_1 hx973_0 hx973_1 hHeld ⊢
                  refine pure_ (i := 0) (N := some 208) (v := ?_) (a' := ?_) #[true, false, false, false, false, false, false, false, false, false, false, false, false, false, false, false] rfl rfl (any_of HT_.out (by kernel_rfl)) (fun _ _ _ h => h) (Or.inl ⟨by rfl, ?_⟩) ?_ ?_
                  rotate_left
                  ·intro w'
                   go_simp
                   with_reducible rfl
                  rotate_left
                  ·simp only [Act.put, List.setIfInBounds_toArray, List.set_cons_zero, List.set_cons_succ, i64_w, i32_w]
                   rfl
                  refine pure_ (i := 1) (N := some 209) (v := ?_) (a' := ?_) #[true, true, false, false, false, false, false, false, false, false, false, false, false, false, false, false] rfl rfl (any_of HT_.out (by kernel_rfl)) (fun _ _ _ h => h) (Or.inl ⟨by rfl, ?_⟩) ?_ ?_
                  rotate_left
                  ·intro w'
                   go_simp
                   with_reducible rfl
                  rotate_left
                  ·simp only [Act.put, List.setIfInBounds_toArray, List.set_cons_zero, List.set_cons_succ, i64_w, i32_w]
                   rfl
                  refine pure_ (i := 2) (N := some 210) (v := ?_) (a' := ?_) #[true, true, true, false, false, false, false, false, false, false, false, false, false, false, false, false] rfl rfl (any_of HT_.out (by kernel_rfl)) (fun _ _ _ h => h) (Or.inl ⟨by rfl, ?_⟩) ?_ ?_
                  rotate_left
                  ·intro w'
                   go_simp
                   with_reducible rfl
                  rotate_left
                  ·simp only [Act.put, List.setIfInBounds_toArray, List.set_cons_zero, List.set_cons_succ, i64_w, i32_w]
                   rfl
                  refine pure_ (i := 3) (N := some 211) (v := ?_) (a' := ?_) #[true, true, true, true, false, false, false, false, false, false, false, false, false, false, false, false] rfl rfl (any_of HT_.out (by kernel_rfl)) (fun _ _ _ h => h) (Or.inl ⟨by rfl, ?_⟩) ?_ ?_
                  rotate_left
                  ·intro w'
                   go_simp
                   with_reducible rfl
                  rotate_left
                  ·simp only [Act.put, List.setIfInBounds_toArray, List.set_cons_zero, List.set_cons_succ, i64_w, i32_w]
                   rfl
                  refine pure_ (i := 4) (N := some 212) (v := ?_) (a' := ?_) #[true, true, true, true, true, false, false, false, false, false, false, false, false, false, false, false] rfl rfl (any_of HT_.out (by kernel_rfl)) (fun _ _ _ h => h) (Or.inl ⟨by rfl, ?_⟩) ?_ ?_
                  rotate_left
                  ·intro w'
                   go_simp
                   with_reducible rfl
                  rotate_left
                  ·simp only [Act.put, List.setIfInBounds_toArray, List.set_cons_zero, List.set_cons_succ, i64_w, i32_w]
                   rfl
                  refine pure_ (i := 5) (N := some 213) (v := ?_) (a' := ?_) #[true, true, true, true, true, true, false, false, false, false, false, false, false, false, false, false] rfl rfl (any_of HT_.out (by kernel_rfl)) (fun _ _ _ h => h) (Or.inl ⟨by rfl, ?_⟩) ?_ ?_
                  rotate_left
                  ·intro w'
                   go_simp
                   with_reducible rfl
                  rotate_left
                  ·simp only [Act.put, List.setIfInBounds_toArray, List.set_cons_zero, List.set_cons_succ, i64_w, i32_w]
                   rfl
                  refine pure_ (i := 6) (N := some 214) (v := ?_) (a' := ?_) #[true, true, true, true, true, true, true, false, false, false, false, false, false, false, false, false] rfl rfl (any_of HT_.out (by kernel_rfl)) (fun _ _ _ h => h) (Or.inl ⟨by rfl, ?_⟩) ?_ ?_
                  rotate_left
                  ·intro w'
                   go_simp
                   with_reducible rfl
                  rotate_left
                  ·simp only [Act.put, List.setIfInBounds_toArray, List.set_cons_zero, List.set_cons_succ, i64_w, i32_w]
                   rfl
                  refine pure_ (i := 7) (N := some 215) (v := ?_) (a' := ?_) #[true, true, true, true, true, true, true, true, false, false, false, false, false, false, false, false] rfl rfl (any_of HT_.out (by kernel_rfl)) (fun _ _ _ h => h) (Or.inl ⟨by rfl, ?_⟩) ?_ ?_
                  rotate_left
                  ·intro w'
                   go_simp
                   with_reducible rfl
                  rotate_left
                  ·simp only [Act.put, List.setIfInBounds_toArray, List.set_cons_zero, List.set_cons_succ, i64_w, i32_w]
                   rfl
                  refine pure_ (i := 9) (N := some 217) (v := ?_) (a' := ?_) #[true, true, true, true, true, true, true, true, false, true, false, false, false, false, false, false] rfl rfl (any_of HT_.out (by kernel_rfl)) (fun _ _ _ h => h) (Or.inl ⟨by rfl, ?_⟩) ?_ ?_
                  rotate_left
                  ·intro w'
                   go_simp
                   with_reducible rfl
                  rotate_left
                  ·simp only [Act.put, List.setIfInBounds_toArray, List.set_cons_zero, List.set_cons_succ, i64_w, i32_w]
                   rfl
                  refine pure_ (i := 10) (N := some 218) (v := ?_) (a' := ?_) #[true, true, true, true, true, true, true, true, false, true, true, false, false, false, false, false] rfl rfl (any_of HT_.out (by kernel_rfl)) (fun _ _ _ h => h) (Or.inl ⟨by rfl, ?_⟩) ?_ ?_
                  rotate_left
                  ·intro w'
                   go_simp
                   with_reducible rfl
                  rotate_left
                  ·simp only [Act.put, List.setIfInBounds_toArray, List.set_cons_zero, List.set_cons_succ, i64_w, i32_w]
                   rfl
                  refine pure_ (i := 11) (N := some 219) (v := ?_) (a' := ?_) #[true, true, true, true, true, true, true, true, false, true, true, true, false, false, false, false] rfl rfl (any_of HT_.out (by kernel_rfl)) (fun _ _ _ h => h) (Or.inl ⟨by rfl, ?_⟩) ?_ ?_
                  rotate_left
                  ·intro w'
                   go_simp
                   with_reducible rfl
                  rotate_left
                  ·simp only [Act.put, List.setIfInBounds_toArray, List.set_cons_zero, List.set_cons_succ, i64_w, i32_w]
                   rfl
                  refine pure_ (i := 12) (N := some 220) (v := ?_) (a' := ?_) #[true, true, true, true, true, true, true, true, false, true, true, true, true, false, false, false] rfl rfl (any_of HT_.out (by kernel_rfl)) (fun _ _ _ h => h) (Or.inl ⟨by rfl, ?_⟩) ?_ ?_
                  rotate_left
                  ·intro w'
                   go_simp
                   with_reducible rfl
                  rotate_left
                  ·simp only [Act.put, List.setIfInBounds_toArray, List.set_cons_zero, List.set_cons_succ, i64_w, i32_w]
                   rfl
                  refine take_ (i := 8) (N := some 216) (v := ?_) (a' := ?_) #[true, true, true, true, true, true, true, true, true, true, true, true, true, false, false, false] rfl rfl (take_ofW HT_.out HW_.out (by kernel_rfl)) (fun _ _ _ h => h) (Or.inl ⟨by rfl, ?_⟩) hHeld ?_ ?_
                  rotate_left
                  ·rintro w' ⟨s0, s1, s2, s3⟩
                   go_simp
                   with_reducible rfl
                  rotate_left
                  ·simp only [Act.put, List.setIfInBounds_toArray, List.set_cons_zero, List.set_cons_succ, i64_w, i32_w]
                   rfl
                  refine take_ (i := 13) (N := some 221) (v := ?_) (a' := ?_) #[true, true, true, true, true, true, true, true, true, true, true, true, true, true, false, false] rfl rfl (take_ofW HT_.out HW_.out (by kernel_rfl)) (fun _ _ _ h => h) (Or.inl ⟨by rfl, ?_⟩) hHeld ?_ ?_
                  rotate_left
                  ·rintro w' ⟨s0, s1, s2, s3⟩
                   go_simp
                   with_reducible rfl
                  rotate_left
                  ·simp only [Act.put, List.setIfInBounds_toArray, List.set_cons_zero, List.set_cons_succ, i64_w, i32_w]
                   rfl
                  refine pure_ (i := 14) (N := some 222) (v := ?_) (a' := ?_) #[true, true, true, true, true, true, true, true, true, true, true, true, true, true, true, false] rfl rfl (any_of HT_.out (by kernel_rfl)) (fun _ _ _ h => h) (Or.inl ⟨by rfl, ?_⟩) ?_ ?_
                  rotate_left
                  ·intro w'
                   go_simp
                   with_reducible rfl
                  rotate_left
                  ·simp only [Act.put, List.setIfInBounds_toArray, List.set_cons_zero, List.set_cons_succ, i64_w, i32_w]
                   rfl
                  refine pure_ (i := 15) (N := some 223) (v := ?_) (a' := ?_) #[true, true, true, true, true, true, true, true, true, true, true, true, true, true, true, true] rfl rfl (any_of HT_.out (by kernel_rfl)) (fun _ _ _ h => h) (Or.inl ⟨by rfl, ?_⟩) ?_ ?_
                  rotate_left
                  ·intro w'
                   go_simp
                   with_reducible rfl
                  rotate_left
                  ·simp only [Act.put, List.setIfInBounds_toArray, List.set_cons_zero, List.set_cons_succ, i64_w, i32_w]
                   rfl
                  refine done_ (done_of HT_.out (by kernel_rfl)) ?_
                  try go_wp2
                  go_roundg k3
                  case measure => have := HJ16.out; have := HJ362.out; have := HK3.out; omega
                  case rel => exact ⟨(x32_3), (wrap64 (x33_3 + 1)), (by first | rfl | (simp; done) | (simp [*]; done)), (by first | rfl | (simp; done) | (simp [*]; done)), H', ⟨by have := HJ16.out; have := HJ362.out; have := HK3.out; omega⟩, ⟨by (with_reducible repeat (first | apply Kd.R_alloc | apply Kd.R_drewN | apply Kd.R_drew)); exact HO_30.out⟩, ⟨by (with_reducible repeat (first | refine blk_drewN ?_ _ | refine blk_drew ?_ | refine blk_alloc ?_ _)); exact BK924.out⟩, ⟨by (with_reducible repeat (first | refine blk_drewN ?_ _ | refine blk_drew ?_ | refine blk_alloc ?_ _)); exact BK931.out⟩, ⟨by (with_reducible repeat (first | refine blk_drewN ?_ _ | refine blk_drew ?_ | refine blk_alloc ?_ _)); exact BK934.out⟩, ⟨by (with_reducible repeat (first | refine blk_drewN ?_ _ | refine blk_drew ?_ | refine blk_alloc ?_ _)); exact BK938.out⟩, ⟨by (with_reducible repeat (first | refine blk_drewN ?_ _ | refine blk_drew ?_ | refine blk_alloc ?_ _)); exact BK942.out⟩, ⟨by (with_reducible repeat (first | refine blk_drewN ?_ _ | refine blk_drew ?_ | refine blk_alloc ?_ _)); exact BK946.out⟩, ⟨by (with_reducible repeat (first | refine blk_drewN ?_ _ | refine blk_drew ?_ | refine blk_alloc ?_ _)); exact BK950.out⟩, ⟨by (with_reducible repeat (first | refine blk_drewN ?_ _ | refine blk_drew ?_ | refine blk_alloc ?_ _)); exact BK958.out⟩, ⟨by repeat (first | (with_reducible first | exact HB.out | apply below_alloc | apply pw_below_drewN | apply below_drew1 | refine below_set ?_ GE924.out | refine below_set ?_ GE931.out | refine below_set ?_ GE934.out | refine below_set ?_ GE938.out | refine below_set ?_ GE942.out | refine below_set ?_ GE946.out | refine below_set ?_ GE950.out | refine below_set ?_ GE958.out) | exact HB.out)⟩⟩
                ·rw [if_neg c414] at H
                 exact absurd H (by simp)
               ·rw [if_neg c413] at H
                exact absurd H (by simp)
              ·rw [if_neg c411] at H
               have c411b0 : decide (0 < x33_3) = false := decide_eq_false c411
               clear c411
               have H' := Aside0.mk H
               clear H
               obtain ⟨Ao422, co422, eo422⟩ := Kd.R_slice HO_30.out
               subst eo422
               try go_wp2
               have n0_ := Aside0.mk (Kd.R_drew HO_30.out)
               have n1_ := Aside0.mk (blk_drew BK924.out)
               have n2_ := Aside0.mk (blk_drew BK931.out)
               have n3_ := Aside0.mk (blk_drew BK934.out)
               have n4_ := Aside0.mk (blk_drew BK938.out)
               have n5_ := Aside0.mk (blk_drew BK942.out)
               have n6_ := Aside0.mk (blk_drew BK946.out)
               have n7_ := Aside0.mk (blk_drew BK950.out)
               have n8_ := Aside0.mk (blk_drew BK958.out)
               have n9_ := Aside0.mk (below_drew1 HB.out)
               clear HO_30 BK924 BK931 BK934 BK938 BK942 BK946 BK950 BK958 HB
               have HO_30 := n0_
               have BK924 := n1_
               have BK931 := n2_
               have BK934 := n3_
               have BK938 := n4_
               have BK942 := n5_
               have BK946 := n6_
               have BK950 := n7_
               have BK958 := n8_
               have HB := n9_
               clear n0_ n1_ n2_ n3_ n4_ n5_ n6_ n7_ n8_ n9_
               have p969 : 0 ≤ (x33_3 : Int) := of_decide_eq_true (by first | (with_reducible assumption) | assumption)
               have q969 : x33_3 < (t965.length : Int) := of_decide_eq_true (by first | (with_reducible assumption) | assumption)
               obtain ⟨ad969, e969, hx969_0, hx969_1⟩ := at_T27 (Kd.R_reads' HO_30.out).2.2 x33_3 p969 q969
               cases e969
               replace p969 := eq_true p969
               replace q969 := eq_true q969
               refine start_ (n := 6) (S := fun w' => w'.cell? ⟨gb938, 0, none⟩ = some (.int .i64 t935) ∧ w'.cell? ⟨gb938, 1, none⟩ = some (.int .u32 t936) ∧ w'.cell? (ad969.add ((x33_3).toNat * 2)) = some (.int .i64 ((rd_T27 t965 x33_3).f0)) ∧ w'.cell? ⟨(ad969.add ((x33_3).toNat * 2)).block, (ad969.add ((x33_3).toNat * 2)).off + 1, none⟩ = some (.int .u32 ((rd_T27 t965 x33_3).f1))) (ds := []) #[false, false, false, false, false, false] (by kernel_rfl) rfl rfl ⟨(blk_cell BK938.out 0).trans rfl, (blk_cell BK938.out 1).trans rfl, hx969_0, hx969_1⟩ (fun hHeld => ?_)
               generalize wr.drew = w423 at HO_30 BK924 BK931 BK934 BK938 BK942 BK946 BK950 BK958 HB hx969_0 hx969_1 hHeld ⊢
               refine pure_ (i := 0) (N := some 197) (v := ?_) (a' := ?_) #[true, false, false, false, false, false] rfl rfl (by kernel_rfl) (fun _ _ _ h => h) (Or.inl ⟨by rfl, ?_⟩) ?_ ?_
               rotate_left
               ·intro w'
                go_simp
                with_reducible rfl
               rotate_left
               ·simp only [Act.put, List.setIfInBounds_toArray, List.set_cons_zero, List.set_cons_succ, i64_w, i32_w]
                rfl
               refine pure_ (i := 1) (N := some 198) (v := ?_) (a' := ?_) #[true, true, false, false, false, false] rfl rfl (by kernel_rfl) (fun _ _ _ h => h) (Or.inl ⟨by rfl, ?_⟩) ?_ ?_
               rotate_left
               ·intro w'
                go_simp
                with_reducible rfl
               rotate_left
               ·simp only [Act.put, List.setIfInBounds_toArray, List.set_cons_zero, List.set_cons_succ, i64_w, i32_w]
                rfl
               refine pure_ (i := 2) (N := some 199) (v := ?_) (a' := ?_) #[true, true, true, false, false, false] rfl rfl (by kernel_rfl) (fun _ _ _ h => h) (Or.inl ⟨by rfl, ?_⟩) ?_ ?_
               rotate_left
               ·intro w'
                go_simp
                with_reducible rfl
               rotate_left
               ·simp only [Act.put, List.setIfInBounds_toArray, List.set_cons_zero, List.set_cons_succ, i64_w, i32_w]
                rfl
               refine take_ (i := 3) (N := some 200) (v := ?_) (a' := ?_) #[true, true, true, true, false, false] rfl rfl (by kernel_rfl) (fun _ _ _ h => h) (Or.inl ⟨by rfl, ?_⟩) hHeld ?_ ?_
               rotate_left
               ·rintro w' ⟨s0, s1, s2, s3⟩
                go_simp
                with_reducible rfl
               rotate_left
               ·simp only [Act.put, List.setIfInBounds_toArray, List.set_cons_zero, List.set_cons_succ, i64_w, i32_w]
                rfl
               refine take_ (i := 4) (N := some 201) (v := ?_) (a' := ?_) #[true, true, true, true, true, false] rfl rfl (by kernel_rfl) (fun _ _ _ h => h) (Or.inl ⟨by rfl, ?_⟩) hHeld ?_ ?_
               rotate_left
               ·rintro w' ⟨s0, s1, s2, s3⟩
                go_simp
                with_reducible rfl
               rotate_left
               ·simp only [Act.put, List.setIfInBounds_toArray, List.set_cons_zero, List.set_cons_succ, i64_w, i32_w]
                rfl
               refine pure_ (i := 5) (N := some 202) (v := ?_) (a' := ?_) #[true, true, true, true, true, true] rfl rfl (by kernel_rfl) (fun _ _ _ h => h) (Or.inl ⟨by rfl, ?_⟩) ?_ ?_
               rotate_left
               ·intro w'
                go_simp
                with_reducible rfl
               rotate_left
               ·simp only [Act.put, List.setIfInBounds_toArray, List.set_cons_zero, List.set_cons_succ, i64_w, i32_w]
                rfl
               refine done_ (by kernel_rfl) ?_
               try go_wp2
               have n0_ := Aside0.mk (Kd.R_drew HO_30.out)
               have n1_ := Aside0.mk (blk_drew BK924.out)
               have n2_ := Aside0.mk (blk_drew BK931.out)
               have n3_ := Aside0.mk (blk_drew BK934.out)
               have n4_ := Aside0.mk (blk_drew BK938.out)
               have n5_ := Aside0.mk (blk_drew BK942.out)
               have n6_ := Aside0.mk (blk_drew BK946.out)
               have n7_ := Aside0.mk (blk_drew BK950.out)
               have n8_ := Aside0.mk (blk_drew BK958.out)
               have n9_ := Aside0.mk (below_drew1 HB.out)
               clear HO_30 BK924 BK931 BK934 BK938 BK942 BK946 BK950 BK958 HB
               have HO_30 := n0_
               have BK924 := n1_
               have BK931 := n2_
               have BK934 := n3_
               have BK938 := n4_
               have BK942 := n5_
               have BK946 := n6_
               have BK950 := n7_
               have BK958 := n8_
               have HB := n9_
               clear n0_ n1_ n2_ n3_ n4_ n5_ n6_ n7_ n8_ n9_
               refine start_ (n := 16) (S := fun w' => True) (ds := []) #[false, false, false, false, false, false, false, false, false, false, false, false, false, false, false, false] (by kernel_rfl) rfl rfl trivial (fun hHeld => ?_); refine with_tabW laws_FnLeast.tab32 laws_FnLeast.bits32 (fun HT_ HW_ => ?_)
               generalize w423.drew = w424 at HO_30 BK924 BK931 BK934 BK938 BK942 BK946 BK950 BK958 HB hHeld ⊢
               refine pure_ (i := 0) (N := some 208) (v := ?_) (a' := ?_) #[true, false, false, false, false, false, false, false, false, false, false, false, false, false, false, false] rfl rfl (any_of HT_.out (by kernel_rfl)) (fun _ _ _ h => h) (Or.inl ⟨by rfl, ?_⟩) ?_ ?_
               rotate_left
               ·intro w'
                go_simp
                with_reducible rfl
               rotate_left
               ·simp only [Act.put, List.setIfInBounds_toArray, List.set_cons_zero, List.set_cons_succ, i64_w, i32_w]
                rfl
               refine pure_ (i := 1) (N := some 209) (v := ?_) (a' := ?_) #[true, true, false, false, false, false, false, false, false, false, false, false, false, false, false, false] rfl rfl (any_of HT_.out (by kernel_rfl)) (fun _ _ _ h => h) (Or.inl ⟨by rfl, ?_⟩) ?_ ?_
               rotate_left
               ·intro w'
                go_simp
                with_reducible rfl
               rotate_left
               ·simp only [Act.put, List.setIfInBounds_toArray, List.set_cons_zero, List.set_cons_succ, i64_w, i32_w]
                rfl
               refine pure_ (i := 2) (N := some 210) (v := ?_) (a' := ?_) #[true, true, true, false, false, false, false, false, false, false, false, false, false, false, false, false] rfl rfl (any_of HT_.out (by kernel_rfl)) (fun _ _ _ h => h) (Or.inl ⟨by rfl, ?_⟩) ?_ ?_
               rotate_left
               ·intro w'
                go_simp
                with_reducible rfl
               rotate_left
               ·simp only [Act.put, List.setIfInBounds_toArray, List.set_cons_zero, List.set_cons_succ, i64_w, i32_w]
                rfl
               refine pure_ (i := 3) (N := some 211) (v := undef) (a' := ?_) #[true, true, true, true, false, false, false, false, false, false, false, false, false, false, false, false] rfl rfl (any_of HT_.out (by kernel_rfl)) (fun _ _ _ h => h) (Or.inr ⟨by rfl, rfl⟩) ?_ ?_
               rotate_left
               ·simp only [Act.put, List.setIfInBounds_toArray, List.set_cons_zero, List.set_cons_succ, i64_w, i32_w]
                rfl
               refine pure_ (i := 4) (N := some 212) (v := undef) (a' := ?_) #[true, true, true, true, true, false, false, false, false, false, false, false, false, false, false, false] rfl rfl (any_of HT_.out (by kernel_rfl)) (fun _ _ _ h => h) (Or.inr ⟨by rfl, rfl⟩) ?_ ?_
               rotate_left
               ·simp only [Act.put, List.setIfInBounds_toArray, List.set_cons_zero, List.set_cons_succ, i64_w, i32_w]
                rfl
               refine pure_ (i := 5) (N := some 213) (v := undef) (a' := ?_) #[true, true, true, true, true, true, false, false, false, false, false, false, false, false, false, false] rfl rfl (any_of HT_.out (by kernel_rfl)) (fun _ _ _ h => h) (Or.inr ⟨by rfl, rfl⟩) ?_ ?_
               rotate_left
               ·simp only [Act.put, List.setIfInBounds_toArray, List.set_cons_zero, List.set_cons_succ, i64_w, i32_w]
                rfl
               refine pure_ (i := 6) (N := some 214) (v := undef) (a' := ?_) #[true, true, true, true, true, true, true, false, false, false, false, false, false, false, false, false] rfl rfl (any_of HT_.out (by kernel_rfl)) (fun _ _ _ h => h) (Or.inr ⟨by rfl, rfl⟩) ?_ ?_
               rotate_left
               ·simp only [Act.put, List.setIfInBounds_toArray, List.set_cons_zero, List.set_cons_succ, i64_w, i32_w]
                rfl
               refine pure_ (i := 7) (N := some 215) (v := undef) (a' := ?_) #[true, true, true, true, true, true, true, true, false, false, false, false, false, false, false, false] rfl rfl (any_of HT_.out (by kernel_rfl)) (fun _ _ _ h => h) (Or.inr ⟨by rfl, rfl⟩) ?_ ?_
               rotate_left
               ·simp only [Act.put, List.setIfInBounds_toArray, List.set_cons_zero, List.set_cons_succ, i64_w, i32_w]
                rfl
               refine pure_ (i := 8) (N := some 216) (v := undef) (a' := ?_) #[true, true, true, true, true, true, true, true, true, false, false, false, false, false, false, false] rfl rfl (any_of HT_.out (by kernel_rfl)) (fun _ _ _ h => h) (Or.inr ⟨by rfl, rfl⟩) ?_ ?_
               rotate_left
               ·simp only [Act.put, List.setIfInBounds_toArray, List.set_cons_zero, List.set_cons_succ, i64_w, i32_w]
                rfl
               refine pure_ (i := 9) (N := some 217) (v := undef) (a' := ?_) #[true, true, true, true, true, true, true, true, true, true, false, false, false, false, false, false] rfl rfl (any_of HT_.out (by kernel_rfl)) (fun _ _ _ h => h) (Or.inr ⟨by rfl, rfl⟩) ?_ ?_
               rotate_left
               ·simp only [Act.put, List.setIfInBounds_toArray, List.set_cons_zero, List.set_cons_succ, i64_w, i32_w]
                rfl
               refine pure_ (i := 10) (N := some 218) (v := undef) (a' := ?_) #[true, true, true, true, true, true, true, true, true, true, true, false, false, false, false, false] rfl rfl (any_of HT_.out (by kernel_rfl)) (fun _ _ _ h => h) (Or.inr ⟨by rfl, rfl⟩) ?_ ?_
               rotate_left
               ·simp only [Act.put, List.setIfInBounds_toArray, List.set_cons_zero, List.set_cons_succ, i64_w, i32_w]
                rfl
               refine pure_ (i := 11) (N := some 219) (v := undef) (a' := ?_) #[true, true, true, true, true, true, true, true, true, true, true, true, false, false, false, false] rfl rfl (any_of HT_.out (by kernel_rfl)) (fun _ _ _ h => h) (Or.inr ⟨by rfl, rfl⟩) ?_ ?_
               rotate_left
               ·simp only [Act.put, List.setIfInBounds_toArray, List.set_cons_zero, List.set_cons_succ, i64_w, i32_w]
                rfl
               refine pure_ (i := 12) (N := some 220) (v := undef) (a' := ?_) #[true, true, true, true, true, true, true, true, true, true, true, true, true, false, false, false] rfl rfl (any_of HT_.out (by kernel_rfl)) (fun _ _ _ h => h) (Or.inr ⟨by rfl, rfl⟩) ?_ ?_
               rotate_left
               ·simp only [Act.put, List.setIfInBounds_toArray, List.set_cons_zero, List.set_cons_succ, i64_w, i32_w]
                rfl
               refine pure_ (i := 13) (N := some 221) (v := undef) (a' := ?_) #[true, true, true, true, true, true, true, true, true, true, true, true, true, true, false, false] rfl rfl (any_of HT_.out (by kernel_rfl)) (fun _ _ _ h => h) (Or.inr ⟨by rfl, rfl⟩) ?_ ?_
               rotate_left
               ·simp only [Act.put, List.setIfInBounds_toArray, List.set_cons_zero, List.set_cons_succ, i64_w, i32_w]
                rfl
               refine pure_ (i := 14) (N := some 222) (v := undef) (a' := ?_) #[true, true, true, true, true, true, true, true, true, true, true, true, true, true, true, false] rfl rfl (any_of HT_.out (by kernel_rfl)) (fun _ _ _ h => h) (Or.inr ⟨by rfl, rfl⟩) ?_ ?_
               rotate_left
               ·simp only [Act.put, List.setIfInBounds_toArray, List.set_cons_zero, List.set_cons_succ, i64_w, i32_w]
                rfl
               refine pure_ (i := 15) (N := some 223) (v := ?_) (a' := ?_) #[true, true, true, true, true, true, true, true, true, true, true, true, true, true, true, true] rfl rfl (any_of HT_.out (by kernel_rfl)) (fun _ _ _ h => h) (Or.inl ⟨by rfl, ?_⟩) ?_ ?_
               rotate_left
               ·intro w'
                go_simp
                with_reducible rfl
               rotate_left
               ·simp only [Act.put, List.setIfInBounds_toArray, List.set_cons_zero, List.set_cons_succ, i64_w, i32_w]
                rfl
               refine done_ (done_of HT_.out (by kernel_rfl)) ?_
               try go_wp2
               go_roundg k3
               case measure => have := HJ16.out; have := HJ362.out; have := HK3.out; omega
               case rel => exact ⟨(x32_3), (wrap64 (x33_3 + 1)), (by first | rfl | (simp; done) | (simp [*]; done)), (by first | rfl | (simp; done) | (simp [*]; done)), H', ⟨by have := HJ16.out; have := HJ362.out; have := HK3.out; omega⟩, ⟨by (with_reducible repeat (first | apply Kd.R_alloc | apply Kd.R_drewN | apply Kd.R_drew)); exact HO_30.out⟩, ⟨by (with_reducible repeat (first | refine blk_drewN ?_ _ | refine blk_drew ?_ | refine blk_alloc ?_ _)); exact BK924.out⟩, ⟨by (with_reducible repeat (first | refine blk_drewN ?_ _ | refine blk_drew ?_ | refine blk_alloc ?_ _)); exact BK931.out⟩, ⟨by (with_reducible repeat (first | refine blk_drewN ?_ _ | refine blk_drew ?_ | refine blk_alloc ?_ _)); exact BK934.out⟩, ⟨by (with_reducible repeat (first | refine blk_drewN ?_ _ | refine blk_drew ?_ | refine blk_alloc ?_ _)); exact BK938.out⟩, ⟨by (with_reducible repeat (first | refine blk_drewN ?_ _ | refine blk_drew ?_ | refine blk_alloc ?_ _)); exact BK942.out⟩, ⟨by (with_reducible repeat (first | refine blk_drewN ?_ _ | refine blk_drew ?_ | refine blk_alloc ?_ _)); exact BK946.out⟩, ⟨by (with_reducible repeat (first | refine blk_drewN ?_ _ | refine blk_drew ?_ | refine blk_alloc ?_ _)); exact BK950.out⟩, ⟨by (with_reducible repeat (first | refine blk_drewN ?_ _ | refine blk_drew ?_ | refine blk_alloc ?_ _)); exact BK958.out⟩, ⟨by repeat (first | (with_reducible first | exact HB.out | apply below_alloc | apply pw_below_drewN | apply below_drew1 | refine below_set ?_ GE924.out | refine below_set ?_ GE931.out | refine below_set ?_ GE934.out | refine below_set ?_ GE938.out | refine below_set ?_ GE942.out | refine below_set ?_ GE946.out | refine below_set ?_ GE950.out | refine below_set ?_ GE958.out) | exact HB.out)⟩⟩
            ·rw [if_neg c392] at H
             exact absurd H (by simp)
           ·rw [if_neg c391] at H
            have c391b0 : decide (x33_3 < (t965.length : Int)) = false := decide_eq_false c391
            clear c391
            by_cases c425 : t966 = 0
            ·rw [if_pos c425] at H
             have c425b0 : (t966 == 0) = true := beq_iff_eq.mpr c425
             have c425b1 : (t966 != 0) = false := bne_eq_false_iff_eq.mpr c425
             clear c425
             replace H := Option.some.inj H
             obtain ⟨Ao426, co426, eo426⟩ := Kd.R_slice HO_30.out
             subst eo426
             go_wp2
             go_ret
             exact ⟨by first | rfl | (simp [errW_none, errW_some] <;> rfl) | (simp [*, errW_none, errW_some] <;> rfl), by repeat (first | (with_reducible first | exact HB.out | apply below_alloc | apply pw_below_drewN | apply below_drew1 | refine below_set ?_ GE924.out | refine below_set ?_ GE931.out | refine below_set ?_ GE934.out | refine below_set ?_ GE938.out | refine below_set ?_ GE942.out | refine below_set ?_ GE946.out | refine below_set ?_ GE950.out | refine below_set ?_ GE958.out) | exact HB.out)⟩
            ·rw [if_neg c425] at H
             have c425b0 : (t966 == 0) = false := beq_eq_false_iff_ne.mpr c425
             have c425b1 : (t966 != 0) = true := bne_iff_ne.mpr c425
             exact absurd H (by simp)

end Go.Proofs.Ytcepbgffnneagaa.Q
end
