/- Contracts of Go functions and plain lemmas over what they compute; printed by the kit's print program or written by hand, joined. -/
import Derived.Test.YtjemkdpffjneaaaBFnBuilt4
import Derived.Test.YtjemkdpffjneaaaBFnBuilt6
import Derived.Test.YtjemkdpffjneaaaBFnBuilt8
import Derived.Test.YtjemkdpffjneaaaBFnBuilt11
import Derived.Test.YtjemkdpffjneaaaBFnBuilt12
section
namespace Go.Proofs.Ytjemkdpffjneaaa.Q
open Go.RowKit Go.Proofs.YtjemkdpffjneaaaW.PrintWords Go.Proofs.YtjemkdpffjneaaaW.PrintLast Go.Proofs.YtjemkdpffjneaaaW.PrintMore
attribute [local go_sem] max2_int min2_int max_two min_two max_three min_three max_four min_four   -- for this text's walks alone
set_option linter.unusedVariables false
set_option linter.unusedSimpArgs false

mutual
def laws_FnBuilt.j0 : Nat → Int → Bool → Int → Int → Int → Int → Int → Int → Option (Bool)
  | 0, _, _, _, _, _, _, _, _ => none
  | k + 1, x3, x135, x1012000, x1012001, x1016000, x1016001, x1020000, x1020001 => if x135 = true then (some false) else ((impl_CountSelf.f x1016000 x1016001).bind fun bt1040 => ((impl_CountSelf.f x1012000 x1012001).bind fun bt1042 => ((impl_HasPart.f x1016000 x1016001 x1020000 x1020001).bind fun bt1044 => ((impl_HasPart.f x1020000 x1020001 x1016000 x1016001).bind fun bt1046 => (laws_FnBuilt.l0 k x3 bt1040.1 bt1040.2 bt1042.1 bt1042.2 bt1044.1 bt1044.2 bt1046.1 bt1046.2 1 2)))))
def laws_FnBuilt.l0 : Nat → Int → Int → Int → Int → Int → Bool → Int → Bool → Int → Int → Int → Option (Bool)
  | 0, _, _, _, _, _, _, _, _, _, _, _ => none
  | k + 1, x3, x20, x21, x22, x23, x24, x25, x26, x27, x28, x29 => if x29 ≤ x3 then (laws_FnBuilt.l0 k x3 x20 x21 x22 x23 x24 x25 x26 x27 (wrap64 (x28 * x29)) (wrap64 (x29 + 1))) else (if x21 = 0 then (if x20 = (wrap64 (2 * x3)) then (if x23 = 0 then (if x22 = x28 then (if x25 = 0 then (if x24 = true then (if x27 = 0 then (some (!x26)) else (some false)) else (some false)) else (some false)) else (some false)) else (some false)) else (some false)) else (some false))
end
def laws_FnBuilt.f (k : Nat) (l0 : List Int) : Option (Bool) := (laws_a2Long.f l0 l0).bind fun t1006 => (if t1006 = true then (some true) else ((laws_a2At.f l0 0 3).bind fun t1007 => ((impl_CompleteGraph.f k (wrap64 (3 + t1007))).bind fun bt1008 => ((impl_CycleGraph.f k (wrap64 (3 + t1007))).bind fun bt1012 => ((impl_PathGraph.f k (wrap64 (3 + t1007))).bind fun bt1016 => ((impl_StarGraph.f k (wrap64 (3 + t1007))).bind fun bt1020 => ((impl_PairsOf.f k bt1008.1 bt1008.2.1).bind fun bt1024 => ((impl_PairsOf.f k bt1012.1 bt1012.2.1).bind fun bt1028 => ((impl_PairsOf.f k bt1016.1 bt1016.2.1).bind fun bt1032 => ((impl_PairsOf.f k bt1020.1 bt1020.2.1).bind fun bt1036 => (if bt1008.2.2 = 0 then (if bt1012.2.2 = 0 then (if bt1016.2.2 = 0 then (if bt1020.2.2 = 0 then (if bt1024.2 = 0 then (if bt1028.2 = 0 then (if bt1032.2 = 0 then (if bt1036.2 = 0 then (if (bt1024.1.length : Int) = (wrap64 (Int.tdiv (wrap64 ((wrap64 (3 + t1007)) * (wrap64 ((wrap64 (3 + t1007)) - 1)))) 2)) then (if (bt1028.1.length : Int) = (wrap64 (3 + t1007)) then (if (bt1032.1.length : Int) = (wrap64 ((wrap64 (3 + t1007)) - 1)) then (laws_FnBuilt.j0 k (wrap64 (3 + t1007)) ((bt1036.1.length : Int) != (wrap64 ((wrap64 (3 + t1007)) - 1))) bt1008.1 bt1008.2.1 bt1012.1 bt1012.2.1 bt1016.1 bt1016.2.1) else (laws_FnBuilt.j0 k (wrap64 (3 + t1007)) true bt1008.1 bt1008.2.1 bt1012.1 bt1012.2.1 bt1016.1 bt1016.2.1)) else (laws_FnBuilt.j0 k (wrap64 (3 + t1007)) true bt1008.1 bt1008.2.1 bt1012.1 bt1012.2.1 bt1016.1 bt1016.2.1)) else (laws_FnBuilt.j0 k (wrap64 (3 + t1007)) true bt1008.1 bt1008.2.1 bt1012.1 bt1012.2.1 bt1016.1 bt1016.2.1)) else (laws_FnBuilt.j0 k (wrap64 (3 + t1007)) true bt1008.1 bt1008.2.1 bt1012.1 bt1012.2.1 bt1016.1 bt1016.2.1)) else (laws_FnBuilt.j0 k (wrap64 (3 + t1007)) true bt1008.1 bt1008.2.1 bt1012.1 bt1012.2.1 bt1016.1 bt1016.2.1)) else (laws_FnBuilt.j0 k (wrap64 (3 + t1007)) true bt1008.1 bt1008.2.1 bt1012.1 bt1012.2.1 bt1016.1 bt1016.2.1)) else (laws_FnBuilt.j0 k (wrap64 (3 + t1007)) true bt1008.1 bt1008.2.1 bt1012.1 bt1012.2.1 bt1016.1 bt1016.2.1)) else (laws_FnBuilt.j0 k (wrap64 (3 + t1007)) true bt1008.1 bt1008.2.1 bt1012.1 bt1012.2.1 bt1016.1 bt1016.2.1)) else (laws_FnBuilt.j0 k (wrap64 (3 + t1007)) true bt1008.1 bt1008.2.1 bt1012.1 bt1012.2.1 bt1016.1 bt1016.2.1)) else (laws_FnBuilt.j0 k (wrap64 (3 + t1007)) true bt1008.1 bt1008.2.1 bt1012.1 bt1012.2.1 bt1016.1 bt1016.2.1)) else (laws_FnBuilt.j0 k (wrap64 (3 + t1007)) true bt1008.1 bt1008.2.1 bt1012.1 bt1012.2.1 bt1016.1 bt1016.2.1))))))))))))
set_option maxHeartbeats 8000000 in
set_option maxRecDepth 100000 in
theorem laws_FnBuilt.calls (k : Nat) (A0 : Option Addr) (c0 : Nat) (l0 : List Int) (r : Bool) (w : World) (hr0 : Kd.C (Kd.int .u8) w A0 l0.length l0) (hc0 : l0.length ≤ c0) (h : laws_FnBuilt.f k l0 = some r) :
    Calls Try.prog 14 #[.slice A0 l0.length c0] w fun e w' => e = .returned (.bool r) ∧ Below w.heap.size w w' := by
  have hu33 := Try.underlying33
  have HR0 := Aside0.mk hr0
  have HC0 := Aside0.mk hc0
  clear hr0 hc0
  have HB := Aside0.mk (Below.refl w.heap.size w)
  have H : ((laws_a2Long.f l0 l0).bind fun t1006 => (if t1006 = true then (some true) else ((laws_a2At.f l0 0 3).bind fun t1007 => ((impl_CompleteGraph.f k (wrap64 (3 + t1007))).bind fun bt1008 => ((impl_CycleGraph.f k (wrap64 (3 + t1007))).bind fun bt1012 => ((impl_PathGraph.f k (wrap64 (3 + t1007))).bind fun bt1016 => ((impl_StarGraph.f k (wrap64 (3 + t1007))).bind fun bt1020 => ((impl_PairsOf.f k bt1008.1 bt1008.2.1).bind fun bt1024 => ((impl_PairsOf.f k bt1012.1 bt1012.2.1).bind fun bt1028 => ((impl_PairsOf.f k bt1016.1 bt1016.2.1).bind fun bt1032 => ((impl_PairsOf.f k bt1020.1 bt1020.2.1).bind fun bt1036 => (if bt1008.2.2 = 0 then (if bt1012.2.2 = 0 then (if bt1016.2.2 = 0 then (if bt1020.2.2 = 0 then (if bt1024.2 = 0 then (if bt1028.2 = 0 then (if bt1032.2 = 0 then (if bt1036.2 = 0 then (if (bt1024.1.length : Int) = (wrap64 (Int.tdiv (wrap64 ((wrap64 (3 + t1007)) * (wrap64 ((wrap64 (3 + t1007)) - 1)))) 2)) then (if (bt1028.1.length : Int) = (wrap64 (3 + t1007)) then (if (bt1032.1.length : Int) = (wrap64 ((wrap64 (3 + t1007)) - 1)) then (laws_FnBuilt.j0 k (wrap64 (3 + t1007)) ((bt1036.1.length : Int) != (wrap64 ((wrap64 (3 + t1007)) - 1))) bt1008.1 bt1008.2.1 bt1012.1 bt1012.2.1 bt1016.1 bt1016.2.1) else (laws_FnBuilt.j0 k (wrap64 (3 + t1007)) true bt1008.1 bt1008.2.1 bt1012.1 bt1012.2.1 bt1016.1 bt1016.2.1)) else (laws_FnBuilt.j0 k (wrap64 (3 + t1007)) true bt1008.1 bt1008.2.1 bt1012.1 bt1012.2.1 bt1016.1 bt1016.2.1)) else (laws_FnBuilt.j0 k (wrap64 (3 + t1007)) true bt1008.1 bt1008.2.1 bt1012.1 bt1012.2.1 bt1016.1 bt1016.2.1)) else (laws_FnBuilt.j0 k (wrap64 (3 + t1007)) true bt1008.1 bt1008.2.1 bt1012.1 bt1012.2.1 bt1016.1 bt1016.2.1)) else (laws_FnBuilt.j0 k (wrap64 (3 + t1007)) true bt1008.1 bt1008.2.1 bt1012.1 bt1012.2.1 bt1016.1 bt1016.2.1)) else (laws_FnBuilt.j0 k (wrap64 (3 + t1007)) true bt1008.1 bt1008.2.1 bt1012.1 bt1012.2.1 bt1016.1 bt1016.2.1)) else (laws_FnBuilt.j0 k (wrap64 (3 + t1007)) true bt1008.1 bt1008.2.1 bt1012.1 bt1012.2.1 bt1016.1 bt1016.2.1)) else (laws_FnBuilt.j0 k (wrap64 (3 + t1007)) true bt1008.1 bt1008.2.1 bt1012.1 bt1012.2.1 bt1016.1 bt1016.2.1)) else (laws_FnBuilt.j0 k (wrap64 (3 + t1007)) true bt1008.1 bt1008.2.1 bt1012.1 bt1012.2.1 bt1016.1 bt1016.2.1)) else (laws_FnBuilt.j0 k (wrap64 (3 + t1007)) true bt1008.1 bt1008.2.1 bt1012.1 bt1012.2.1 bt1016.1 bt1016.2.1)) else (laws_FnBuilt.j0 k (wrap64 (3 + t1007)) true bt1008.1 bt1008.2.1 bt1012.1 bt1012.2.1 bt1016.1 bt1016.2.1))))))))))))) = some r := h
  clear h
  replace H := Option.bind_eq_some_iff.mp H
  obtain ⟨t1006, A20, H⟩ := H
  replace H : (if t1006 = true then (some true) else ((laws_a2At.f l0 0 3).bind fun t1007 => ((impl_CompleteGraph.f k (wrap64 (3 + t1007))).bind fun bt1008 => ((impl_CycleGraph.f k (wrap64 (3 + t1007))).bind fun bt1012 => ((impl_PathGraph.f k (wrap64 (3 + t1007))).bind fun bt1016 => ((impl_StarGraph.f k (wrap64 (3 + t1007))).bind fun bt1020 => ((impl_PairsOf.f k bt1008.1 bt1008.2.1).bind fun bt1024 => ((impl_PairsOf.f k bt1012.1 bt1012.2.1).bind fun bt1028 => ((impl_PairsOf.f k bt1016.1 bt1016.2.1).bind fun bt1032 => ((impl_PairsOf.f k bt1020.1 bt1020.2.1).bind fun bt1036 => (if bt1008.2.2 = 0 then (if bt1012.2.2 = 0 then (if bt1016.2.2 = 0 then (if bt1020.2.2 = 0 then (if bt1024.2 = 0 then (if bt1028.2 = 0 then (if bt1032.2 = 0 then (if bt1036.2 = 0 then (if (bt1024.1.length : Int) = (wrap64 (Int.tdiv (wrap64 ((wrap64 (3 + t1007)) * (wrap64 ((wrap64 (3 + t1007)) - 1)))) 2)) then (if (bt1028.1.length : Int) = (wrap64 (3 + t1007)) then (if (bt1032.1.length : Int) = (wrap64 ((wrap64 (3 + t1007)) - 1)) then (laws_FnBuilt.j0 k (wrap64 (3 + t1007)) ((bt1036.1.length : Int) != (wrap64 ((wrap64 (3 + t1007)) - 1))) bt1008.1 bt1008.2.1 bt1012.1 bt1012.2.1 bt1016.1 bt1016.2.1) else (laws_FnBuilt.j0 k (wrap64 (3 + t1007)) true bt1008.1 bt1008.2.1 bt1012.1 bt1012.2.1 bt1016.1 bt1016.2.1)) else (laws_FnBuilt.j0 k (wrap64 (3 + t1007)) true bt1008.1 bt1008.2.1 bt1012.1 bt1012.2.1 bt1016.1 bt1016.2.1)) else (laws_FnBuilt.j0 k (wrap64 (3 + t1007)) true bt1008.1 bt1008.2.1 bt1012.1 bt1012.2.1 bt1016.1 bt1016.2.1)) else (laws_FnBuilt.j0 k (wrap64 (3 + t1007)) true bt1008.1 bt1008.2.1 bt1012.1 bt1012.2.1 bt1016.1 bt1016.2.1)) else (laws_FnBuilt.j0 k (wrap64 (3 + t1007)) true bt1008.1 bt1008.2.1 bt1012.1 bt1012.2.1 bt1016.1 bt1016.2.1)) else (laws_FnBuilt.j0 k (wrap64 (3 + t1007)) true bt1008.1 bt1008.2.1 bt1012.1 bt1012.2.1 bt1016.1 bt1016.2.1)) else (laws_FnBuilt.j0 k (wrap64 (3 + t1007)) true bt1008.1 bt1008.2.1 bt1012.1 bt1012.2.1 bt1016.1 bt1016.2.1)) else (laws_FnBuilt.j0 k (wrap64 (3 + t1007)) true bt1008.1 bt1008.2.1 bt1012.1 bt1012.2.1 bt1016.1 bt1016.2.1)) else (laws_FnBuilt.j0 k (wrap64 (3 + t1007)) true bt1008.1 bt1008.2.1 bt1012.1 bt1012.2.1 bt1016.1 bt1016.2.1)) else (laws_FnBuilt.j0 k (wrap64 (3 + t1007)) true bt1008.1 bt1008.2.1 bt1012.1 bt1012.2.1 bt1016.1 bt1016.2.1)) else (laws_FnBuilt.j0 k (wrap64 (3 + t1007)) true bt1008.1 bt1008.2.1 bt1012.1 bt1012.2.1 bt1016.1 bt1016.2.1)))))))))))) = some r := H
  have A2 := Aside0.mk A20
  clear A20
  by_cases c3 : t1006 = true
  · subst c3
    have H1 : (some true) = some r := by rw [if_pos rfl] at H; exact H
    clear H
    have H := H1
    clear H1
    obtain rfl := Option.some.inj H
    go_enter Try.func14, Try.ntmps14
    go_wp2_with (first | ((with_reducible refine gate_callee (f := 53) rfl ?_); refine goesL_ (some 32) rfl rfl Try.func53 (by kernel_rfl) rfl #[.slice A0 l0.length c0, .slice A0 l0.length c0] rfl (by (try simp only [List.map_toArray, List.map_cons, List.map_nil]); first | done | rfl | (simp only [List.length_drop, List.length_take]; rfl)) ?_; (with_reducible refine (laws_a2Long.calls _ _ l0 _ _ l0 true _ ?side1 ?side2 ?side3 ?side4 A2.out).mono ?_); (case side1 => repeat (first | exact HR0.out | (with_reducible refine Kd.C_alloc ?_ _) | (with_reducible refine Kd.C_drewN ?_ _) | (with_reducible refine Kd.C_drew ?_))); (case side2 => exact HC0.out); (case side3 => repeat (first | exact HR0.out | (with_reducible refine Kd.C_alloc ?_ _) | (with_reducible refine Kd.C_drewN ?_ _) | (with_reducible refine Kd.C_drew ?_))); (case side4 => exact HC0.out); rintro e w' ⟨rfl, ⟨nd, rfl⟩⟩; refine ⟨_, rfl, ?_⟩))
    go_ret
    exact ⟨by first | rfl | (simp [errW_none, errW_some] <;> rfl) | (simp [*, errW_none, errW_some] <;> rfl), by repeat (first | (with_reducible first | exact HB.out | apply below_alloc | apply pw_below_drewN | apply below_drew1) | exact HB.out)⟩
  · replace c3 := Bool.eq_false_iff.mpr c3
    subst c3
    have H1 : ((laws_a2At.f l0 0 3).bind fun t1007 => ((impl_CompleteGraph.f k (wrap64 (3 + t1007))).bind fun bt1008 => ((impl_CycleGraph.f k (wrap64 (3 + t1007))).bind fun bt1012 => ((impl_PathGraph.f k (wrap64 (3 + t1007))).bind fun bt1016 => ((impl_StarGraph.f k (wrap64 (3 + t1007))).bind fun bt1020 => ((impl_PairsOf.f k bt1008.1 bt1008.2.1).bind fun bt1024 => ((impl_PairsOf.f k bt1012.1 bt1012.2.1).bind fun bt1028 => ((impl_PairsOf.f k bt1016.1 bt1016.2.1).bind fun bt1032 => ((impl_PairsOf.f k bt1020.1 bt1020.2.1).bind fun bt1036 => (if bt1008.2.2 = 0 then (if bt1012.2.2 = 0 then (if bt1016.2.2 = 0 then (if bt1020.2.2 = 0 then (if bt1024.2 = 0 then (if bt1028.2 = 0 then (if bt1032.2 = 0 then (if bt1036.2 = 0 then (if (bt1024.1.length : Int) = (wrap64 (Int.tdiv (wrap64 ((wrap64 (3 + t1007)) * (wrap64 ((wrap64 (3 + t1007)) - 1)))) 2)) then (if (bt1028.1.length : Int) = (wrap64 (3 + t1007)) then (if (bt1032.1.length : Int) = (wrap64 ((wrap64 (3 + t1007)) - 1)) then (laws_FnBuilt.j0 k (wrap64 (3 + t1007)) ((bt1036.1.length : Int) != (wrap64 ((wrap64 (3 + t1007)) - 1))) bt1008.1 bt1008.2.1 bt1012.1 bt1012.2.1 bt1016.1 bt1016.2.1) else (laws_FnBuilt.j0 k (wrap64 (3 + t1007)) true bt1008.1 bt1008.2.1 bt1012.1 bt1012.2.1 bt1016.1 bt1016.2.1)) else (laws_FnBuilt.j0 k (wrap64 (3 + t1007)) true bt1008.1 bt1008.2.1 bt1012.1 bt1012.2.1 bt1016.1 bt1016.2.1)) else (laws_FnBuilt.j0 k (wrap64 (3 + t1007)) true bt1008.1 bt1008.2.1 bt1012.1 bt1012.2.1 bt1016.1 bt1016.2.1)) else (laws_FnBuilt.j0 k (wrap64 (3 + t1007)) true bt1008.1 bt1008.2.1 bt1012.1 bt1012.2.1 bt1016.1 bt1016.2.1)) else (laws_FnBuilt.j0 k (wrap64 (3 + t1007)) true bt1008.1 bt1008.2.1 bt1012.1 bt1012.2.1 bt1016.1 bt1016.2.1)) else (laws_FnBuilt.j0 k (wrap64 (3 + t1007)) true bt1008.1 bt1008.2.1 bt1012.1 bt1012.2.1 bt1016.1 bt1016.2.1)) else (laws_FnBuilt.j0 k (wrap64 (3 + t1007)) true bt1008.1 bt1008.2.1 bt1012.1 bt1012.2.1 bt1016.1 bt1016.2.1)) else (laws_FnBuilt.j0 k (wrap64 (3 + t1007)) true bt1008.1 bt1008.2.1 bt1012.1 bt1012.2.1 bt1016.1 bt1016.2.1)) else (laws_FnBuilt.j0 k (wrap64 (3 + t1007)) true bt1008.1 bt1008.2.1 bt1012.1 bt1012.2.1 bt1016.1 bt1016.2.1)) else (laws_FnBuilt.j0 k (wrap64 (3 + t1007)) true bt1008.1 bt1008.2.1 bt1012.1 bt1012.2.1 bt1016.1 bt1016.2.1)) else (laws_FnBuilt.j0 k (wrap64 (3 + t1007)) true bt1008.1 bt1008.2.1 bt1012.1 bt1012.2.1 bt1016.1 bt1016.2.1))))))))))) = some r := by rw [if_neg (show ¬ (false = true) by decide)] at H; exact H
    clear H
    have H := H1
    clear H1
    replace H := Option.bind_eq_some_iff.mp H
    obtain ⟨t1007, A40, H⟩ := H
    replace H : ((impl_CompleteGraph.f k (wrap64 (3 + t1007))).bind fun bt1008 => ((impl_CycleGraph.f k (wrap64 (3 + t1007))).bind fun bt1012 => ((impl_PathGraph.f k (wrap64 (3 + t1007))).bind fun bt1016 => ((impl_StarGraph.f k (wrap64 (3 + t1007))).bind fun bt1020 => ((impl_PairsOf.f k bt1008.1 bt1008.2.1).bind fun bt1024 => ((impl_PairsOf.f k bt1012.1 bt1012.2.1).bind fun bt1028 => ((impl_PairsOf.f k bt1016.1 bt1016.2.1).bind fun bt1032 => ((impl_PairsOf.f k bt1020.1 bt1020.2.1).bind fun bt1036 => (if bt1008.2.2 = 0 then (if bt1012.2.2 = 0 then (if bt1016.2.2 = 0 then (if bt1020.2.2 = 0 then (if bt1024.2 = 0 then (if bt1028.2 = 0 then (if bt1032.2 = 0 then (if bt1036.2 = 0 then (if (bt1024.1.length : Int) = (wrap64 (Int.tdiv (wrap64 ((wrap64 (3 + t1007)) * (wrap64 ((wrap64 (3 + t1007)) - 1)))) 2)) then (if (bt1028.1.length : Int) = (wrap64 (3 + t1007)) then (if (bt1032.1.length : Int) = (wrap64 ((wrap64 (3 + t1007)) - 1)) then (laws_FnBuilt.j0 k (wrap64 (3 + t1007)) ((bt1036.1.length : Int) != (wrap64 ((wrap64 (3 + t1007)) - 1))) bt1008.1 bt1008.2.1 bt1012.1 bt1012.2.1 bt1016.1 bt1016.2.1) else (laws_FnBuilt.j0 k (wrap64 (3 + t1007)) true bt1008.1 bt1008.2.1 bt1012.1 bt1012.2.1 bt1016.1 bt1016.2.1)) else (laws_FnBuilt.j0 k (wrap64 (3 + t1007)) true bt1008.1 bt1008.2.1 bt1012.1 bt1012.2.1 bt1016.1 bt1016.2.1)) else (laws_FnBuilt.j0 k (wrap64 (3 + t1007)) true bt1008.1 bt1008.2.1 bt1012.1 bt1012.2.1 bt1016.1 bt1016.2.1)) else (laws_FnBuilt.j0 k (wrap64 (3 + t1007)) true bt1008.1 bt1008.2.1 bt1012.1 bt1012.2.1 bt1016.1 bt1016.2.1)) else (laws_FnBuilt.j0 k (wrap64 (3 + t1007)) true bt1008.1 bt1008.2.1 bt1012.1 bt1012.2.1 bt1016.1 bt1016.2.1)) else (laws_FnBuilt.j0 k (wrap64 (3 + t1007)) true bt1008.1 bt1008.2.1 bt1012.1 bt1012.2.1 bt1016.1 bt1016.2.1)) else (laws_FnBuilt.j0 k (wrap64 (3 + t1007)) true bt1008.1 bt1008.2.1 bt1012.1 bt1012.2.1 bt1016.1 bt1016.2.1)) else (laws_FnBuilt.j0 k (wrap64 (3 + t1007)) true bt1008.1 bt1008.2.1 bt1012.1 bt1012.2.1 bt1016.1 bt1016.2.1)) else (laws_FnBuilt.j0 k (wrap64 (3 + t1007)) true bt1008.1 bt1008.2.1 bt1012.1 bt1012.2.1 bt1016.1 bt1016.2.1)) else (laws_FnBuilt.j0 k (wrap64 (3 + t1007)) true bt1008.1 bt1008.2.1 bt1012.1 bt1012.2.1 bt1016.1 bt1016.2.1)) else (laws_FnBuilt.j0 k (wrap64 (3 + t1007)) true bt1008.1 bt1008.2.1 bt1012.1 bt1012.2.1 bt1016.1 bt1016.2.1)))))))))) = some r := H
    have A4 := Aside0.mk A40
    clear A40
    replace H := Option.bind_eq_some_iff.mp H
    obtain ⟨⟨t1008, t1009, t1010⟩, A50, H⟩ := H
    replace H : ((impl_CycleGraph.f k (wrap64 (3 + t1007))).bind fun bt1012 => ((impl_PathGraph.f k (wrap64 (3 + t1007))).bind fun bt1016 => ((impl_StarGraph.f k (wrap64 (3 + t1007))).bind fun bt1020 => ((impl_PairsOf.f k t1008 t1009).bind fun bt1024 => ((impl_PairsOf.f k bt1012.1 bt1012.2.1).bind fun bt1028 => ((impl_PairsOf.f k bt1016.1 bt1016.2.1).bind fun bt1032 => ((impl_PairsOf.f k bt1020.1 bt1020.2.1).bind fun bt1036 => (if t1010 = 0 then (if bt1012.2.2 = 0 then (if bt1016.2.2 = 0 then (if bt1020.2.2 = 0 then (if bt1024.2 = 0 then (if bt1028.2 = 0 then (if bt1032.2 = 0 then (if bt1036.2 = 0 then (if (bt1024.1.length : Int) = (wrap64 (Int.tdiv (wrap64 ((wrap64 (3 + t1007)) * (wrap64 ((wrap64 (3 + t1007)) - 1)))) 2)) then (if (bt1028.1.length : Int) = (wrap64 (3 + t1007)) then (if (bt1032.1.length : Int) = (wrap64 ((wrap64 (3 + t1007)) - 1)) then (laws_FnBuilt.j0 k (wrap64 (3 + t1007)) ((bt1036.1.length : Int) != (wrap64 ((wrap64 (3 + t1007)) - 1))) t1008 t1009 bt1012.1 bt1012.2.1 bt1016.1 bt1016.2.1) else (laws_FnBuilt.j0 k (wrap64 (3 + t1007)) true t1008 t1009 bt1012.1 bt1012.2.1 bt1016.1 bt1016.2.1)) else (laws_FnBuilt.j0 k (wrap64 (3 + t1007)) true t1008 t1009 bt1012.1 bt1012.2.1 bt1016.1 bt1016.2.1)) else (laws_FnBuilt.j0 k (wrap64 (3 + t1007)) true t1008 t1009 bt1012.1 bt1012.2.1 bt1016.1 bt1016.2.1)) else (laws_FnBuilt.j0 k (wrap64 (3 + t1007)) true t1008 t1009 bt1012.1 bt1012.2.1 bt1016.1 bt1016.2.1)) else (laws_FnBuilt.j0 k (wrap64 (3 + t1007)) true t1008 t1009 bt1012.1 bt1012.2.1 bt1016.1 bt1016.2.1)) else (laws_FnBuilt.j0 k (wrap64 (3 + t1007)) true t1008 t1009 bt1012.1 bt1012.2.1 bt1016.1 bt1016.2.1)) else (laws_FnBuilt.j0 k (wrap64 (3 + t1007)) true t1008 t1009 bt1012.1 bt1012.2.1 bt1016.1 bt1016.2.1)) else (laws_FnBuilt.j0 k (wrap64 (3 + t1007)) true t1008 t1009 bt1012.1 bt1012.2.1 bt1016.1 bt1016.2.1)) else (laws_FnBuilt.j0 k (wrap64 (3 + t1007)) true t1008 t1009 bt1012.1 bt1012.2.1 bt1016.1 bt1016.2.1)) else (laws_FnBuilt.j0 k (wrap64 (3 + t1007)) true t1008 t1009 bt1012.1 bt1012.2.1 bt1016.1 bt1016.2.1)) else (laws_FnBuilt.j0 k (wrap64 (3 + t1007)) true t1008 t1009 bt1012.1 bt1012.2.1 bt1016.1 bt1016.2.1))))))))) = some r := H
    have A5 := Aside0.mk A50
    clear A50
    replace H := Option.bind_eq_some_iff.mp H
    obtain ⟨⟨t1012, t1013, t1014⟩, A60, H⟩ := H
    replace H : ((impl_PathGraph.f k (wrap64 (3 + t1007))).bind fun bt1016 => ((impl_StarGraph.f k (wrap64 (3 + t1007))).bind fun bt1020 => ((impl_PairsOf.f k t1008 t1009).bind fun bt1024 => ((impl_PairsOf.f k t1012 t1013).bind fun bt1028 => ((impl_PairsOf.f k bt1016.1 bt1016.2.1).bind fun bt1032 => ((impl_PairsOf.f k bt1020.1 bt1020.2.1).bind fun bt1036 => (if t1010 = 0 then (if t1014 = 0 then (if bt1016.2.2 = 0 then (if bt1020.2.2 = 0 then (if bt1024.2 = 0 then (if bt1028.2 = 0 then (if bt1032.2 = 0 then (if bt1036.2 = 0 then (if (bt1024.1.length : Int) = (wrap64 (Int.tdiv (wrap64 ((wrap64 (3 + t1007)) * (wrap64 ((wrap64 (3 + t1007)) - 1)))) 2)) then (if (bt1028.1.length : Int) = (wrap64 (3 + t1007)) then (if (bt1032.1.length : Int) = (wrap64 ((wrap64 (3 + t1007)) - 1)) then (laws_FnBuilt.j0 k (wrap64 (3 + t1007)) ((bt1036.1.length : Int) != (wrap64 ((wrap64 (3 + t1007)) - 1))) t1008 t1009 t1012 t1013 bt1016.1 bt1016.2.1) else (laws_FnBuilt.j0 k (wrap64 (3 + t1007)) true t1008 t1009 t1012 t1013 bt1016.1 bt1016.2.1)) else (laws_FnBuilt.j0 k (wrap64 (3 + t1007)) true t1008 t1009 t1012 t1013 bt1016.1 bt1016.2.1)) else (laws_FnBuilt.j0 k (wrap64 (3 + t1007)) true t1008 t1009 t1012 t1013 bt1016.1 bt1016.2.1)) else (laws_FnBuilt.j0 k (wrap64 (3 + t1007)) true t1008 t1009 t1012 t1013 bt1016.1 bt1016.2.1)) else (laws_FnBuilt.j0 k (wrap64 (3 + t1007)) true t1008 t1009 t1012 t1013 bt1016.1 bt1016.2.1)) else (laws_FnBuilt.j0 k (wrap64 (3 + t1007)) true t1008 t1009 t1012 t1013 bt1016.1 bt1016.2.1)) else (laws_FnBuilt.j0 k (wrap64 (3 + t1007)) true t1008 t1009 t1012 t1013 bt1016.1 bt1016.2.1)) else (laws_FnBuilt.j0 k (wrap64 (3 + t1007)) true t1008 t1009 t1012 t1013 bt1016.1 bt1016.2.1)) else (laws_FnBuilt.j0 k (wrap64 (3 + t1007)) true t1008 t1009 t1012 t1013 bt1016.1 bt1016.2.1)) else (laws_FnBuilt.j0 k (wrap64 (3 + t1007)) true t1008 t1009 t1012 t1013 bt1016.1 bt1016.2.1)) else (laws_FnBuilt.j0 k (wrap64 (3 + t1007)) true t1008 t1009 t1012 t1013 bt1016.1 bt1016.2.1)))))))) = some r := H
    have A6 := Aside0.mk A60
    clear A60
    replace H := Option.bind_eq_some_iff.mp H
    obtain ⟨⟨t1016, t1017, t1018⟩, A70, H⟩ := H
    replace H : ((impl_StarGraph.f k (wrap64 (3 + t1007))).bind fun bt1020 => ((impl_PairsOf.f k t1008 t1009).bind fun bt1024 => ((impl_PairsOf.f k t1012 t1013).bind fun bt1028 => ((impl_PairsOf.f k t1016 t1017).bind fun bt1032 => ((impl_PairsOf.f k bt1020.1 bt1020.2.1).bind fun bt1036 => (if t1010 = 0 then (if t1014 = 0 then (if t1018 = 0 then (if bt1020.2.2 = 0 then (if bt1024.2 = 0 then (if bt1028.2 = 0 then (if bt1032.2 = 0 then (if bt1036.2 = 0 then (if (bt1024.1.length : Int) = (wrap64 (Int.tdiv (wrap64 ((wrap64 (3 + t1007)) * (wrap64 ((wrap64 (3 + t1007)) - 1)))) 2)) then (if (bt1028.1.length : Int) = (wrap64 (3 + t1007)) then (if (bt1032.1.length : Int) = (wrap64 ((wrap64 (3 + t1007)) - 1)) then (laws_FnBuilt.j0 k (wrap64 (3 + t1007)) ((bt1036.1.length : Int) != (wrap64 ((wrap64 (3 + t1007)) - 1))) t1008 t1009 t1012 t1013 t1016 t1017) else (laws_FnBuilt.j0 k (wrap64 (3 + t1007)) true t1008 t1009 t1012 t1013 t1016 t1017)) else (laws_FnBuilt.j0 k (wrap64 (3 + t1007)) true t1008 t1009 t1012 t1013 t1016 t1017)) else (laws_FnBuilt.j0 k (wrap64 (3 + t1007)) true t1008 t1009 t1012 t1013 t1016 t1017)) else (laws_FnBuilt.j0 k (wrap64 (3 + t1007)) true t1008 t1009 t1012 t1013 t1016 t1017)) else (laws_FnBuilt.j0 k (wrap64 (3 + t1007)) true t1008 t1009 t1012 t1013 t1016 t1017)) else (laws_FnBuilt.j0 k (wrap64 (3 + t1007)) true t1008 t1009 t1012 t1013 t1016 t1017)) else (laws_FnBuilt.j0 k (wrap64 (3 + t1007)) true t1008 t1009 t1012 t1013 t1016 t1017)) else (laws_FnBuilt.j0 k (wrap64 (3 + t1007)) true t1008 t1009 t1012 t1013 t1016 t1017)) else (laws_FnBuilt.j0 k (wrap64 (3 + t1007)) true t1008 t1009 t1012 t1013 t1016 t1017)) else (laws_FnBuilt.j0 k (wrap64 (3 + t1007)) true t1008 t1009 t1012 t1013 t1016 t1017)) else (laws_FnBuilt.j0 k (wrap64 (3 + t1007)) true t1008 t1009 t1012 t1013 t1016 t1017))))))) = some r := H
    have A7 := Aside0.mk A70
    clear A70
    replace H := Option.bind_eq_some_iff.mp H
    obtain ⟨⟨t1020, t1021, t1022⟩, A80, H⟩ := H
    replace H : ((impl_PairsOf.f k t1008 t1009).bind fun bt1024 => ((impl_PairsOf.f k t1012 t1013).bind fun bt1028 => ((impl_PairsOf.f k t1016 t1017).bind fun bt1032 => ((impl_PairsOf.f k t1020 t1021).bind fun bt1036 => (if t1010 = 0 then (if t1014 = 0 then (if t1018 = 0 then (if t1022 = 0 then (if bt1024.2 = 0 then (if bt1028.2 = 0 then (if bt1032.2 = 0 then (if bt1036.2 = 0 then (if (bt1024.1.length : Int) = (wrap64 (Int.tdiv (wrap64 ((wrap64 (3 + t1007)) * (wrap64 ((wrap64 (3 + t1007)) - 1)))) 2)) then (if (bt1028.1.length : Int) = (wrap64 (3 + t1007)) then (if (bt1032.1.length : Int) = (wrap64 ((wrap64 (3 + t1007)) - 1)) then (laws_FnBuilt.j0 k (wrap64 (3 + t1007)) ((bt1036.1.length : Int) != (wrap64 ((wrap64 (3 + t1007)) - 1))) t1008 t1009 t1012 t1013 t1016 t1017) else (laws_FnBuilt.j0 k (wrap64 (3 + t1007)) true t1008 t1009 t1012 t1013 t1016 t1017)) else (laws_FnBuilt.j0 k (wrap64 (3 + t1007)) true t1008 t1009 t1012 t1013 t1016 t1017)) else (laws_FnBuilt.j0 k (wrap64 (3 + t1007)) true t1008 t1009 t1012 t1013 t1016 t1017)) else (laws_FnBuilt.j0 k (wrap64 (3 + t1007)) true t1008 t1009 t1012 t1013 t1016 t1017)) else (laws_FnBuilt.j0 k (wrap64 (3 + t1007)) true t1008 t1009 t1012 t1013 t1016 t1017)) else (laws_FnBuilt.j0 k (wrap64 (3 + t1007)) true t1008 t1009 t1012 t1013 t1016 t1017)) else (laws_FnBuilt.j0 k (wrap64 (3 + t1007)) true t1008 t1009 t1012 t1013 t1016 t1017)) else (laws_FnBuilt.j0 k (wrap64 (3 + t1007)) true t1008 t1009 t1012 t1013 t1016 t1017)) else (laws_FnBuilt.j0 k (wrap64 (3 + t1007)) true t1008 t1009 t1012 t1013 t1016 t1017)) else (laws_FnBuilt.j0 k (wrap64 (3 + t1007)) true t1008 t1009 t1012 t1013 t1016 t1017)) else (laws_FnBuilt.j0 k (wrap64 (3 + t1007)) true t1008 t1009 t1012 t1013 t1016 t1017)))))) = some r := H
    have A8 := Aside0.mk A80
    clear A80
    replace H := Option.bind_eq_some_iff.mp H
    obtain ⟨⟨t1024, t1027⟩, A90, H⟩ := H
    replace H : ((impl_PairsOf.f k t1012 t1013).bind fun bt1028 => ((impl_PairsOf.f k t1016 t1017).bind fun bt1032 => ((impl_PairsOf.f k t1020 t1021).bind fun bt1036 => (if t1010 = 0 then (if t1014 = 0 then (if t1018 = 0 then (if t1022 = 0 then (if t1027 = 0 then (if bt1028.2 = 0 then (if bt1032.2 = 0 then (if bt1036.2 = 0 then (if (t1024.length : Int) = (wrap64 (Int.tdiv (wrap64 ((wrap64 (3 + t1007)) * (wrap64 ((wrap64 (3 + t1007)) - 1)))) 2)) then (if (bt1028.1.length : Int) = (wrap64 (3 + t1007)) then (if (bt1032.1.length : Int) = (wrap64 ((wrap64 (3 + t1007)) - 1)) then (laws_FnBuilt.j0 k (wrap64 (3 + t1007)) ((bt1036.1.length : Int) != (wrap64 ((wrap64 (3 + t1007)) - 1))) t1008 t1009 t1012 t1013 t1016 t1017) else (laws_FnBuilt.j0 k (wrap64 (3 + t1007)) true t1008 t1009 t1012 t1013 t1016 t1017)) else (laws_FnBuilt.j0 k (wrap64 (3 + t1007)) true t1008 t1009 t1012 t1013 t1016 t1017)) else (laws_FnBuilt.j0 k (wrap64 (3 + t1007)) true t1008 t1009 t1012 t1013 t1016 t1017)) else (laws_FnBuilt.j0 k (wrap64 (3 + t1007)) true t1008 t1009 t1012 t1013 t1016 t1017)) else (laws_FnBuilt.j0 k (wrap64 (3 + t1007)) true t1008 t1009 t1012 t1013 t1016 t1017)) else (laws_FnBuilt.j0 k (wrap64 (3 + t1007)) true t1008 t1009 t1012 t1013 t1016 t1017)) else (laws_FnBuilt.j0 k (wrap64 (3 + t1007)) true t1008 t1009 t1012 t1013 t1016 t1017)) else (laws_FnBuilt.j0 k (wrap64 (3 + t1007)) true t1008 t1009 t1012 t1013 t1016 t1017)) else (laws_FnBuilt.j0 k (wrap64 (3 + t1007)) true t1008 t1009 t1012 t1013 t1016 t1017)) else (laws_FnBuilt.j0 k (wrap64 (3 + t1007)) true t1008 t1009 t1012 t1013 t1016 t1017)) else (laws_FnBuilt.j0 k (wrap64 (3 + t1007)) true t1008 t1009 t1012 t1013 t1016 t1017))))) = some r := H
    have A9 := Aside0.mk A90
    clear A90
    replace H := Option.bind_eq_some_iff.mp H
    obtain ⟨⟨t1028, t1031⟩, A100, H⟩ := H
    replace H : ((impl_PairsOf.f k t1016 t1017).bind fun bt1032 => ((impl_PairsOf.f k t1020 t1021).bind fun bt1036 => (if t1010 = 0 then (if t1014 = 0 then (if t1018 = 0 then (if t1022 = 0 then (if t1027 = 0 then (if t1031 = 0 then (if bt1032.2 = 0 then (if bt1036.2 = 0 then (if (t1024.length : Int) = (wrap64 (Int.tdiv (wrap64 ((wrap64 (3 + t1007)) * (wrap64 ((wrap64 (3 + t1007)) - 1)))) 2)) then (if (t1028.length : Int) = (wrap64 (3 + t1007)) then (if (bt1032.1.length : Int) = (wrap64 ((wrap64 (3 + t1007)) - 1)) then (laws_FnBuilt.j0 k (wrap64 (3 + t1007)) ((bt1036.1.length : Int) != (wrap64 ((wrap64 (3 + t1007)) - 1))) t1008 t1009 t1012 t1013 t1016 t1017) else (laws_FnBuilt.j0 k (wrap64 (3 + t1007)) true t1008 t1009 t1012 t1013 t1016 t1017)) else (laws_FnBuilt.j0 k (wrap64 (3 + t1007)) true t1008 t1009 t1012 t1013 t1016 t1017)) else (laws_FnBuilt.j0 k (wrap64 (3 + t1007)) true t1008 t1009 t1012 t1013 t1016 t1017)) else (laws_FnBuilt.j0 k (wrap64 (3 + t1007)) true t1008 t1009 t1012 t1013 t1016 t1017)) else (laws_FnBuilt.j0 k (wrap64 (3 + t1007)) true t1008 t1009 t1012 t1013 t1016 t1017)) else (laws_FnBuilt.j0 k (wrap64 (3 + t1007)) true t1008 t1009 t1012 t1013 t1016 t1017)) else (laws_FnBuilt.j0 k (wrap64 (3 + t1007)) true t1008 t1009 t1012 t1013 t1016 t1017)) else (laws_FnBuilt.j0 k (wrap64 (3 + t1007)) true t1008 t1009 t1012 t1013 t1016 t1017)) else (laws_FnBuilt.j0 k (wrap64 (3 + t1007)) true t1008 t1009 t1012 t1013 t1016 t1017)) else (laws_FnBuilt.j0 k (wrap64 (3 + t1007)) true t1008 t1009 t1012 t1013 t1016 t1017)) else (laws_FnBuilt.j0 k (wrap64 (3 + t1007)) true t1008 t1009 t1012 t1013 t1016 t1017)))) = some r := H
    have A10 := Aside0.mk A100
    clear A100
    replace H := Option.bind_eq_some_iff.mp H
    obtain ⟨⟨t1032, t1035⟩, A110, H⟩ := H
    replace H : ((impl_PairsOf.f k t1020 t1021).bind fun bt1036 => (if t1010 = 0 then (if t1014 = 0 then (if t1018 = 0 then (if t1022 = 0 then (if t1027 = 0 then (if t1031 = 0 then (if t1035 = 0 then (if bt1036.2 = 0 then (if (t1024.length : Int) = (wrap64 (Int.tdiv (wrap64 ((wrap64 (3 + t1007)) * (wrap64 ((wrap64 (3 + t1007)) - 1)))) 2)) then (if (t1028.length : Int) = (wrap64 (3 + t1007)) then (if (t1032.length : Int) = (wrap64 ((wrap64 (3 + t1007)) - 1)) then (laws_FnBuilt.j0 k (wrap64 (3 + t1007)) ((bt1036.1.length : Int) != (wrap64 ((wrap64 (3 + t1007)) - 1))) t1008 t1009 t1012 t1013 t1016 t1017) else (laws_FnBuilt.j0 k (wrap64 (3 + t1007)) true t1008 t1009 t1012 t1013 t1016 t1017)) else (laws_FnBuilt.j0 k (wrap64 (3 + t1007)) true t1008 t1009 t1012 t1013 t1016 t1017)) else (laws_FnBuilt.j0 k (wrap64 (3 + t1007)) true t1008 t1009 t1012 t1013 t1016 t1017)) else (laws_FnBuilt.j0 k (wrap64 (3 + t1007)) true t1008 t1009 t1012 t1013 t1016 t1017)) else (laws_FnBuilt.j0 k (wrap64 (3 + t1007)) true t1008 t1009 t1012 t1013 t1016 t1017)) else (laws_FnBuilt.j0 k (wrap64 (3 + t1007)) true t1008 t1009 t1012 t1013 t1016 t1017)) else (laws_FnBuilt.j0 k (wrap64 (3 + t1007)) true t1008 t1009 t1012 t1013 t1016 t1017)) else (laws_FnBuilt.j0 k (wrap64 (3 + t1007)) true t1008 t1009 t1012 t1013 t1016 t1017)) else (laws_FnBuilt.j0 k (wrap64 (3 + t1007)) true t1008 t1009 t1012 t1013 t1016 t1017)) else (laws_FnBuilt.j0 k (wrap64 (3 + t1007)) true t1008 t1009 t1012 t1013 t1016 t1017)) else (laws_FnBuilt.j0 k (wrap64 (3 + t1007)) true t1008 t1009 t1012 t1013 t1016 t1017))) = some r := H
    have A11 := Aside0.mk A110
    clear A110
    replace H := Option.bind_eq_some_iff.mp H
    obtain ⟨⟨t1036, t1039⟩, A120, H⟩ := H
    replace H : (if t1010 = 0 then (if t1014 = 0 then (if t1018 = 0 then (if t1022 = 0 then (if t1027 = 0 then (if t1031 = 0 then (if t1035 = 0 then (if t1039 = 0 then (if (t1024.length : Int) = (wrap64 (Int.tdiv (wrap64 ((wrap64 (3 + t1007)) * (wrap64 ((wrap64 (3 + t1007)) - 1)))) 2)) then (if (t1028.length : Int) = (wrap64 (3 + t1007)) then (if (t1032.length : Int) = (wrap64 ((wrap64 (3 + t1007)) - 1)) then (laws_FnBuilt.j0 k (wrap64 (3 + t1007)) ((t1036.length : Int) != (wrap64 ((wrap64 (3 + t1007)) - 1))) t1008 t1009 t1012 t1013 t1016 t1017) else (laws_FnBuilt.j0 k (wrap64 (3 + t1007)) true t1008 t1009 t1012 t1013 t1016 t1017)) else (laws_FnBuilt.j0 k (wrap64 (3 + t1007)) true t1008 t1009 t1012 t1013 t1016 t1017)) else (laws_FnBuilt.j0 k (wrap64 (3 + t1007)) true t1008 t1009 t1012 t1013 t1016 t1017)) else (laws_FnBuilt.j0 k (wrap64 (3 + t1007)) true t1008 t1009 t1012 t1013 t1016 t1017)) else (laws_FnBuilt.j0 k (wrap64 (3 + t1007)) true t1008 t1009 t1012 t1013 t1016 t1017)) else (laws_FnBuilt.j0 k (wrap64 (3 + t1007)) true t1008 t1009 t1012 t1013 t1016 t1017)) else (laws_FnBuilt.j0 k (wrap64 (3 + t1007)) true t1008 t1009 t1012 t1013 t1016 t1017)) else (laws_FnBuilt.j0 k (wrap64 (3 + t1007)) true t1008 t1009 t1012 t1013 t1016 t1017)) else (laws_FnBuilt.j0 k (wrap64 (3 + t1007)) true t1008 t1009 t1012 t1013 t1016 t1017)) else (laws_FnBuilt.j0 k (wrap64 (3 + t1007)) true t1008 t1009 t1012 t1013 t1016 t1017)) else (laws_FnBuilt.j0 k (wrap64 (3 + t1007)) true t1008 t1009 t1012 t1013 t1016 t1017)) = some r := H
    have A12 := Aside0.mk A120
    clear A120
    have HC13 := Aside0.mk H
    clear H
    go_enter Try.func14, Try.ntmps14
    go_upto_region 12 with (first | ((with_reducible refine gate_callee (f := 53) rfl ?_); refine goesL_ (some 32) rfl rfl Try.func53 (by kernel_rfl) rfl #[.slice A0 l0.length c0, .slice A0 l0.length c0] rfl (by (try simp only [List.map_toArray, List.map_cons, List.map_nil]); first | done | rfl | (simp only [List.length_drop, List.length_take]; rfl)) ?_; (with_reducible refine (laws_a2Long.calls _ _ l0 _ _ l0 false _ ?side1 ?side2 ?side3 ?side4 A2.out).mono ?_); (case side1 => repeat (first | exact HR0.out | (with_reducible refine Kd.C_alloc ?_ _) | (with_reducible refine Kd.C_drewN ?_ _) | (with_reducible refine Kd.C_drew ?_))); (case side2 => exact HC0.out); (case side3 => repeat (first | exact HR0.out | (with_reducible refine Kd.C_alloc ?_ _) | (with_reducible refine Kd.C_drewN ?_ _) | (with_reducible refine Kd.C_drew ?_))); (case side4 => exact HC0.out); rintro e w' ⟨rfl, ⟨nd, rfl⟩⟩; refine ⟨_, rfl, ?_⟩) | ((with_reducible refine gate_callee (f := 54) rfl ?_); refine goesL_ (some 34) rfl rfl Try.func54 (by kernel_rfl) rfl #[.slice A0 l0.length c0, .int .i64 0, .int .i64 3] rfl (by (try simp only [List.map_toArray, List.map_cons, List.map_nil]); first | done | rfl | (simp only [List.length_drop, List.length_take]; rfl)) ?_; (with_reducible refine (laws_a2At.calls _ _ l0 0 3 t1007 _ ?side1 ?side2 A4.out).mono ?_); (case side1 => repeat (first | exact HR0.out | (with_reducible refine Kd.C_alloc ?_ _) | (with_reducible refine Kd.C_drewN ?_ _) | (with_reducible refine Kd.C_drew ?_))); (case side2 => exact HC0.out); rintro e w' ⟨rfl, ⟨nd, rfl⟩⟩; refine ⟨_, rfl, ?_⟩) | ((with_reducible refine gate_callee (f := 55) rfl ?_); refine goesL_ (some 38) rfl rfl Try.func55 (by kernel_rfl) rfl #[.int .i64 (wrap64 (3 + t1007))] rfl (by (try simp only [List.map_toArray, List.map_cons, List.map_nil]); first | done | rfl | (simp only [List.length_drop, List.length_take]; rfl)) ?_; (with_reducible refine (impl_CompleteGraph.calls k (wrap64 (3 + t1007)) t1008 t1009 t1010 _ A5.out).mono ?_); rintro e w14 ⟨rfl, hb⟩; refine ⟨_, rfl, ?_⟩; have n0_ := Aside0.mk (below_step (by repeat (first | (with_reducible first | exact HB.out | apply below_alloc | apply pw_below_drewN | apply below_drew1) | exact HB.out)) hb); clear HB; have HB := n0_; clear n0_; (try clear hb); (try clear hb2); (try clear hk); (try clear hi)) | ((with_reducible refine gate_dst (N := 4) rfl ?_); (try (refine gate_guard (by rfl) ?_; dsimp only)); refine box_event ?hg (N := 4) ?hd (cs := #[.int .i64 0, .int .u32 0]) (t := 33) ?hr ?_; (case hd => rfl); (case hg => rfl); (case hr => first | (go_simp; done) | (go_simp; rfl)); intro gb1011 hg w15 hbox hb; have n0_ := Aside0.mk (below_step (by repeat (first | (with_reducible first | exact HB.out | apply below_alloc | apply pw_below_drewN | apply below_drew1) | exact HB.out)) hb); have n1_ := Aside0.mk (hbox); have n2_ := Aside0.mk ((by rw [hg]; exact (below_size (by repeat (first | (with_reducible first | exact HB.out | apply below_alloc | apply pw_below_drewN | apply below_drew1) | exact HB.out))) : w.heap.size ≤ gb1011)); have n3_ := Aside0.mk ((by rw [hg]; exact (below_size (by repeat (first | (with_reducible first | exact HB.out | apply below_alloc | apply pw_below_drewN | apply below_drew1) | exact HB.out))) : w.heap.size ≤ gb1011)); clear HB; have HB := n0_; have BK1011 := n1_; have GW1011 := n2_; have GE1011 := n3_; clear n0_ n1_ n2_ n3_; clear hb hbox hg; have hcz16_0 : w15.cell? ⟨gb1011, 0, none⟩ = some (.int .i64 0) := (blk_cell BK1011.out 0).trans rfl; have hcz16_1 : w15.cell? ⟨gb1011, 1, none⟩ = some (.int .u32 0) := (blk_cell BK1011.out 1).trans rfl; have hfz16_0 := blk_frozen BK1011.out 0; have hfz16_1 := blk_frozen BK1011.out 1) | ((with_reducible refine gate_callee (f := 56) rfl ?_); refine goesL_ (some 43) rfl rfl Try.func56 (by kernel_rfl) rfl #[.int .i64 (wrap64 (3 + t1007))] rfl (by (try simp only [List.map_toArray, List.map_cons, List.map_nil]); first | done | rfl | (simp only [List.length_drop, List.length_take]; rfl)) ?_; (with_reducible refine (impl_CycleGraph.calls k (wrap64 (3 + t1007)) t1012 t1013 t1014 _ A6.out).mono ?_); rintro e w17 ⟨rfl, hb⟩; refine ⟨_, rfl, ?_⟩; have n0_ := Aside0.mk (blk_below (g := gb1011) (o := .cells #[.int .i64 t1008, .int .u32 t1009] 33 (0, 0)) (by (with_reducible repeat (first | refine blk_drewN ?_ _ | refine blk_drew ?_ | refine blk_alloc ?_ _)); refine blk_put (cs := #[.int .i64 t1008, .int .u32 0]) ?_ 1 _ rfl; (with_reducible repeat (first | refine blk_drewN ?_ _ | refine blk_drew ?_ | refine blk_alloc ?_ _)); refine blk_put (cs := #[.int .i64 0, .int .u32 0]) ?_ 0 _ rfl; (with_reducible repeat (first | refine blk_drewN ?_ _ | refine blk_drew ?_ | refine blk_alloc ?_ _)); exact BK1011.out) hb); have n1_ := Aside0.mk (below_step (by repeat (first | (with_reducible first | exact HB.out | apply below_alloc | apply pw_below_drewN | apply below_drew1 | refine below_set ?_ GE1011.out) | exact HB.out)) hb); clear BK1011; clear HB; have BK1011 := n0_; have HB := n1_; clear n0_ n1_; (try clear hb); (try clear hb2); (try clear hk); (try clear hi)) | ((with_reducible refine gate_dst (N := 6) rfl ?_); (try (refine gate_guard (by rfl) ?_; dsimp only)); refine box_event ?hg (N := 6) ?hd (cs := #[.int .i64 0, .int .u32 0]) (t := 33) ?hr ?_; (case hd => rfl); (case hg => rfl); (case hr => first | (go_simp; done) | (go_simp; rfl)); intro gb1015 hg w18 hbox hb; have n0_ := Aside0.mk (blk_below (g := gb1011) (o := .cells #[.int .i64 t1008, .int .u32 t1009] 33 (0, 0)) (by (with_reducible repeat (first | refine blk_drewN ?_ _ | refine blk_drew ?_ | refine blk_alloc ?_ _)); exact BK1011.out) hb); have n1_ := Aside0.mk (below_step (by repeat (first | (with_reducible first | exact HB.out | apply below_alloc | apply pw_below_drewN | apply below_drew1 | refine below_set ?_ GE1011.out) | exact HB.out)) hb); have n2_ := Aside0.mk (hbox); have n3_ := Aside0.mk ((by rw [hg]; exact (below_size (by repeat (first | (with_reducible first | exact HB.out | apply below_alloc | apply pw_below_drewN | apply below_drew1 | refine below_set ?_ GE1011.out) | exact HB.out))) : w.heap.size ≤ gb1015)); have n4_ := Aside0.mk ((by rw [hg]; exact (below_size (by repeat (first | (with_reducible first | exact HB.out | apply below_alloc | apply pw_below_drewN | apply below_drew1 | refine below_set ?_ GE1011.out) | exact HB.out))) : w.heap.size ≤ gb1015)); have n5_ := Aside0.mk ((by rw [hg]; exact Nat.ne_of_lt (blk_lt (g := gb1011) (o := .cells #[.int .i64 t1008, .int .u32 t1009] 33 (0, 0)) (by (with_reducible repeat (first | refine blk_drewN ?_ _ | refine blk_drew ?_ | refine blk_alloc ?_ _)); exact BK1011.out)) : gb1011 ≠ gb1015)); have n6_ := Aside0.mk ((by rw [hg]; exact Nat.ne_of_gt (blk_lt (g := gb1011) (o := .cells #[.int .i64 t1008, .int .u32 t1009] 33 (0, 0)) (by (with_reducible repeat (first | refine blk_drewN ?_ _ | refine blk_drew ?_ | refine blk_alloc ?_ _)); exact BK1011.out)) : gb1015 ≠ gb1011)); clear BK1011; clear HB; have BK1011 := n0_; have HB := n1_; have BK1015 := n2_; have GW1015 := n3_; have GE1015 := n4_; have NB1011_1015 := n5_; have NB1015_1011 := n6_; clear n0_ n1_ n2_ n3_ n4_ n5_ n6_; clear hb hbox hg; have hnb19 := NB1015_1011.out; have hnc19 := NB1011_1015.out; have hcz20_0 : w18.cell? ⟨gb1015, 0, none⟩ = some (.int .i64 0) := (blk_cell BK1015.out 0).trans rfl; have hcz20_1 : w18.cell? ⟨gb1015, 1, none⟩ = some (.int .u32 0) := (blk_cell BK1015.out 1).trans rfl; have hfz20_0 := blk_frozen BK1015.out 0; have hfz20_1 := blk_frozen BK1015.out 1) | ((with_reducible refine gate_callee (f := 57) rfl ?_); refine goesL_ (some 48) rfl rfl Try.func57 (by kernel_rfl) rfl #[.int .i64 (wrap64 (3 + t1007))] rfl (by (try simp only [List.map_toArray, List.map_cons, List.map_nil]); first | done | rfl | (simp only [List.length_drop, List.length_take]; rfl)) ?_; (with_reducible refine (impl_PathGraph.calls k (wrap64 (3 + t1007)) t1016 t1017 t1018 _ A7.out).mono ?_); rintro e w21 ⟨rfl, hb⟩; refine ⟨_, rfl, ?_⟩; have n0_ := Aside0.mk (blk_below (g := gb1011) (o := .cells #[.int .i64 t1008, .int .u32 t1009] 33 (0, 0)) (by (with_reducible repeat (first | refine blk_drewN ?_ _ | refine blk_drew ?_ | refine blk_alloc ?_ _)); refine blk_far ?_ NB1011_1015.out _; (with_reducible repeat (first | refine blk_drewN ?_ _ | refine blk_drew ?_ | refine blk_alloc ?_ _)); refine blk_far ?_ NB1011_1015.out _; (with_reducible repeat (first | refine blk_drewN ?_ _ | refine blk_drew ?_ | refine blk_alloc ?_ _)); exact BK1011.out) hb); have n1_ := Aside0.mk (blk_below (g := gb1015) (o := .cells #[.int .i64 t1012, .int .u32 t1013] 33 (0, 0)) (by (with_reducible repeat (first | refine blk_drewN ?_ _ | refine blk_drew ?_ | refine blk_alloc ?_ _)); refine blk_put (cs := #[.int .i64 t1012, .int .u32 0]) ?_ 1 _ rfl; (with_reducible repeat (first | refine blk_drewN ?_ _ | refine blk_drew ?_ | refine blk_alloc ?_ _)); refine blk_put (cs := #[.int .i64 0, .int .u32 0]) ?_ 0 _ rfl; (with_reducible repeat (first | refine blk_drewN ?_ _ | refine blk_drew ?_ | refine blk_alloc ?_ _)); exact BK1015.out) hb); have n2_ := Aside0.mk (below_step (by repeat (first | (with_reducible first | exact HB.out | apply below_alloc | apply pw_below_drewN | apply below_drew1 | refine below_set ?_ GE1011.out | refine below_set ?_ GE1015.out) | exact HB.out)) hb); clear BK1011; clear BK1015; clear HB; have BK1011 := n0_; have BK1015 := n1_; have HB := n2_; clear n0_ n1_ n2_; (try clear hb); (try clear hb2); (try clear hk); (try clear hi)) | ((with_reducible refine gate_dst (N := 8) rfl ?_); (try (refine gate_guard (by rfl) ?_; dsimp only)); refine box_event ?hg (N := 8) ?hd (cs := #[.int .i64 0, .int .u32 0]) (t := 33) ?hr ?_; (case hd => rfl); (case hg => rfl); (case hr => first | (go_simp; done) | (go_simp; rfl)); intro gb1019 hg w22 hbox hb; have n0_ := Aside0.mk (blk_below (g := gb1011) (o := .cells #[.int .i64 t1008, .int .u32 t1009] 33 (0, 0)) (by (with_reducible repeat (first | refine blk_drewN ?_ _ | refine blk_drew ?_ | refine blk_alloc ?_ _)); exact BK1011.out) hb); have n1_ := Aside0.mk (blk_below (g := gb1015) (o := .cells #[.int .i64 t1012, .int .u32 t1013] 33 (0, 0)) (by (with_reducible repeat (first | refine blk_drewN ?_ _ | refine blk_drew ?_ | refine blk_alloc ?_ _)); exact BK1015.out) hb); have n2_ := Aside0.mk (below_step (by repeat (first | (with_reducible first | exact HB.out | apply below_alloc | apply pw_below_drewN | apply below_drew1 | refine below_set ?_ GE1011.out | refine below_set ?_ GE1015.out) | exact HB.out)) hb); have n3_ := Aside0.mk (hbox); have n4_ := Aside0.mk ((by rw [hg]; exact (below_size (by repeat (first | (with_reducible first | exact HB.out | apply below_alloc | apply pw_below_drewN | apply below_drew1 | refine below_set ?_ GE1011.out | refine below_set ?_ GE1015.out) | exact HB.out))) : w.heap.size ≤ gb1019)); have n5_ := Aside0.mk ((by rw [hg]; exact (below_size (by repeat (first | (with_reducible first | exact HB.out | apply below_alloc | apply pw_below_drewN | apply below_drew1 | refine below_set ?_ GE1011.out | refine below_set ?_ GE1015.out) | exact HB.out))) : w.heap.size ≤ gb1019)); have n6_ := Aside0.mk ((by rw [hg]; exact Nat.ne_of_lt (blk_lt (g := gb1011) (o := .cells #[.int .i64 t1008, .int .u32 t1009] 33 (0, 0)) (by (with_reducible repeat (first | refine blk_drewN ?_ _ | refine blk_drew ?_ | refine blk_alloc ?_ _)); exact BK1011.out)) : gb1011 ≠ gb1019)); have n7_ := Aside0.mk ((by rw [hg]; exact Nat.ne_of_gt (blk_lt (g := gb1011) (o := .cells #[.int .i64 t1008, .int .u32 t1009] 33 (0, 0)) (by (with_reducible repeat (first | refine blk_drewN ?_ _ | refine blk_drew ?_ | refine blk_alloc ?_ _)); exact BK1011.out)) : gb1019 ≠ gb1011)); have n8_ := Aside0.mk ((by rw [hg]; exact Nat.ne_of_lt (blk_lt (g := gb1015) (o := .cells #[.int .i64 t1012, .int .u32 t1013] 33 (0, 0)) (by (with_reducible repeat (first | refine blk_drewN ?_ _ | refine blk_drew ?_ | refine blk_alloc ?_ _)); exact BK1015.out)) : gb1015 ≠ gb1019)); have n9_ := Aside0.mk ((by rw [hg]; exact Nat.ne_of_gt (blk_lt (g := gb1015) (o := .cells #[.int .i64 t1012, .int .u32 t1013] 33 (0, 0)) (by (with_reducible repeat (first | refine blk_drewN ?_ _ | refine blk_drew ?_ | refine blk_alloc ?_ _)); exact BK1015.out)) : gb1019 ≠ gb1015)); clear BK1011; clear BK1015; clear HB; have BK1011 := n0_; have BK1015 := n1_; have HB := n2_; have BK1019 := n3_; have GW1019 := n4_; have GE1019 := n5_; have NB1011_1019 := n6_; have NB1019_1011 := n7_; have NB1015_1019 := n8_; have NB1019_1015 := n9_; clear n0_ n1_ n2_ n3_ n4_ n5_ n6_ n7_ n8_ n9_; clear hb hbox hg; have hnb23 := NB1019_1011.out; have hnc23 := NB1011_1019.out; have hnb24 := NB1019_1015.out; have hnc24 := NB1015_1019.out; have hcz25_0 : w22.cell? ⟨gb1019, 0, none⟩ = some (.int .i64 0) := (blk_cell BK1019.out 0).trans rfl; have hcz25_1 : w22.cell? ⟨gb1019, 1, none⟩ = some (.int .u32 0) := (blk_cell BK1019.out 1).trans rfl; have hfz25_0 := blk_frozen BK1019.out 0; have hfz25_1 := blk_frozen BK1019.out 1) | ((with_reducible refine gate_callee (f := 58) rfl ?_); refine goesL_ (some 53) rfl rfl Try.func58 (by kernel_rfl) rfl #[.int .i64 (wrap64 (3 + t1007))] rfl (by (try simp only [List.map_toArray, List.map_cons, List.map_nil]); first | done | rfl | (simp only [List.length_drop, List.length_take]; rfl)) ?_; (with_reducible refine (impl_StarGraph.calls k (wrap64 (3 + t1007)) t1020 t1021 t1022 _ A8.out).mono ?_); rintro e w26 ⟨rfl, hb⟩; refine ⟨_, rfl, ?_⟩; have n0_ := Aside0.mk (blk_below (g := gb1011) (o := .cells #[.int .i64 t1008, .int .u32 t1009] 33 (0, 0)) (by (with_reducible repeat (first | refine blk_drewN ?_ _ | refine blk_drew ?_ | refine blk_alloc ?_ _)); refine blk_far ?_ NB1011_1019.out _; (with_reducible repeat (first | refine blk_drewN ?_ _ | refine blk_drew ?_ | refine blk_alloc ?_ _)); refine blk_far ?_ NB1011_1019.out _; (with_reducible repeat (first | refine blk_drewN ?_ _ | refine blk_drew ?_ | refine blk_alloc ?_ _)); exact BK1011.out) hb); have n1_ := Aside0.mk (blk_below (g := gb1015) (o := .cells #[.int .i64 t1012, .int .u32 t1013] 33 (0, 0)) (by (with_reducible repeat (first | refine blk_drewN ?_ _ | refine blk_drew ?_ | refine blk_alloc ?_ _)); refine blk_far ?_ NB1015_1019.out _; (with_reducible repeat (first | refine blk_drewN ?_ _ | refine blk_drew ?_ | refine blk_alloc ?_ _)); refine blk_far ?_ NB1015_1019.out _; (with_reducible repeat (first | refine blk_drewN ?_ _ | refine blk_drew ?_ | refine blk_alloc ?_ _)); exact BK1015.out) hb); have n2_ := Aside0.mk (blk_below (g := gb1019) (o := .cells #[.int .i64 t1016, .int .u32 t1017] 33 (0, 0)) (by (with_reducible repeat (first | refine blk_drewN ?_ _ | refine blk_drew ?_ | refine blk_alloc ?_ _)); refine blk_put (cs := #[.int .i64 t1016, .int .u32 0]) ?_ 1 _ rfl; (with_reducible repeat (first | refine blk_drewN ?_ _ | refine blk_drew ?_ | refine blk_alloc ?_ _)); refine blk_put (cs := #[.int .i64 0, .int .u32 0]) ?_ 0 _ rfl; (with_reducible repeat (first | refine blk_drewN ?_ _ | refine blk_drew ?_ | refine blk_alloc ?_ _)); exact BK1019.out) hb); have n3_ := Aside0.mk (below_step (by repeat (first | (with_reducible first | exact HB.out | apply below_alloc | apply pw_below_drewN | apply below_drew1 | refine below_set ?_ GE1011.out | refine below_set ?_ GE1015.out | refine below_set ?_ GE1019.out) | exact HB.out)) hb); clear BK1011; clear BK1015; clear BK1019; clear HB; have BK1011 := n0_; have BK1015 := n1_; have BK1019 := n2_; have HB := n3_; clear n0_ n1_ n2_ n3_; (try clear hb); (try clear hb2); (try clear hk); (try clear hi)) | ((with_reducible refine gate_dst (N := 10) rfl ?_); (try (refine gate_guard (by rfl) ?_; dsimp only)); refine box_event ?hg (N := 10) ?hd (cs := #[.int .i64 0, .int .u32 0]) (t := 33) ?hr ?_; (case hd => rfl); (case hg => rfl); (case hr => first | (go_simp; done) | (go_simp; rfl)); intro gb1023 hg w27 hbox hb; have n0_ := Aside0.mk (blk_below (g := gb1011) (o := .cells #[.int .i64 t1008, .int .u32 t1009] 33 (0, 0)) (by (with_reducible repeat (first | refine blk_drewN ?_ _ | refine blk_drew ?_ | refine blk_alloc ?_ _)); exact BK1011.out) hb); have n1_ := Aside0.mk (blk_below (g := gb1015) (o := .cells #[.int .i64 t1012, .int .u32 t1013] 33 (0, 0)) (by (with_reducible repeat (first | refine blk_drewN ?_ _ | refine blk_drew ?_ | refine blk_alloc ?_ _)); exact BK1015.out) hb); have n2_ := Aside0.mk (blk_below (g := gb1019) (o := .cells #[.int .i64 t1016, .int .u32 t1017] 33 (0, 0)) (by (with_reducible repeat (first | refine blk_drewN ?_ _ | refine blk_drew ?_ | refine blk_alloc ?_ _)); exact BK1019.out) hb); have n3_ := Aside0.mk (below_step (by repeat (first | (with_reducible first | exact HB.out | apply below_alloc | apply pw_below_drewN | apply below_drew1 | refine below_set ?_ GE1011.out | refine below_set ?_ GE1015.out | refine below_set ?_ GE1019.out) | exact HB.out)) hb); have n4_ := Aside0.mk (hbox); have n5_ := Aside0.mk ((by rw [hg]; exact (below_size (by repeat (first | (with_reducible first | exact HB.out | apply below_alloc | apply pw_below_drewN | apply below_drew1 | refine below_set ?_ GE1011.out | refine below_set ?_ GE1015.out | refine below_set ?_ GE1019.out) | exact HB.out))) : w.heap.size ≤ gb1023)); have n6_ := Aside0.mk ((by rw [hg]; exact (below_size (by repeat (first | (with_reducible first | exact HB.out | apply below_alloc | apply pw_below_drewN | apply below_drew1 | refine below_set ?_ GE1011.out | refine below_set ?_ GE1015.out | refine below_set ?_ GE1019.out) | exact HB.out))) : w.heap.size ≤ gb1023)); have n7_ := Aside0.mk ((by rw [hg]; exact Nat.ne_of_lt (blk_lt (g := gb1011) (o := .cells #[.int .i64 t1008, .int .u32 t1009] 33 (0, 0)) (by (with_reducible repeat (first | refine blk_drewN ?_ _ | refine blk_drew ?_ | refine blk_alloc ?_ _)); exact BK1011.out)) : gb1011 ≠ gb1023)); have n8_ := Aside0.mk ((by rw [hg]; exact Nat.ne_of_gt (blk_lt (g := gb1011) (o := .cells #[.int .i64 t1008, .int .u32 t1009] 33 (0, 0)) (by (with_reducible repeat (first | refine blk_drewN ?_ _ | refine blk_drew ?_ | refine blk_alloc ?_ _)); exact BK1011.out)) : gb1023 ≠ gb1011)); have n9_ := Aside0.mk ((by rw [hg]; exact Nat.ne_of_lt (blk_lt (g := gb1015) (o := .cells #[.int .i64 t1012, .int .u32 t1013] 33 (0, 0)) (by (with_reducible repeat (first | refine blk_drewN ?_ _ | refine blk_drew ?_ | refine blk_alloc ?_ _)); exact BK1015.out)) : gb1015 ≠ gb1023)); have n10_ := Aside0.mk ((by rw [hg]; exact Nat.ne_of_gt (blk_lt (g := gb1015) (o := .cells #[.int .i64 t1012, .int .u32 t1013] 33 (0, 0)) (by (with_reducible repeat (first | refine blk_drewN ?_ _ | refine blk_drew ?_ | refine blk_alloc ?_ _)); exact BK1015.out)) : gb1023 ≠ gb1015)); have n11_ := Aside0.mk ((by rw [hg]; exact Nat.ne_of_lt (blk_lt (g := gb1019) (o := .cells #[.int .i64 t1016, .int .u32 t1017] 33 (0, 0)) (by (with_reducible repeat (first | refine blk_drewN ?_ _ | refine blk_drew ?_ | refine blk_alloc ?_ _)); exact BK1019.out)) : gb1019 ≠ gb1023)); have n12_ := Aside0.mk ((by rw [hg]; exact Nat.ne_of_gt (blk_lt (g := gb1019) (o := .cells #[.int .i64 t1016, .int .u32 t1017] 33 (0, 0)) (by (with_reducible repeat (first | refine blk_drewN ?_ _ | refine blk_drew ?_ | refine blk_alloc ?_ _)); exact BK1019.out)) : gb1023 ≠ gb1019)); clear BK1011; clear BK1015; clear BK1019; clear HB; have BK1011 := n0_; have BK1015 := n1_; have BK1019 := n2_; have HB := n3_; have BK1023 := n4_; have GW1023 := n5_; have GE1023 := n6_; have NB1011_1023 := n7_; have NB1023_1011 := n8_; have NB1015_1023 := n9_; have NB1023_1015 := n10_; have NB1019_1023 := n11_; have NB1023_1019 := n12_; clear n0_ n1_ n2_ n3_ n4_ n5_ n6_ n7_ n8_ n9_ n10_ n11_ n12_; clear hb hbox hg; have hnb28 := NB1023_1011.out; have hnc28 := NB1011_1023.out; have hnb29 := NB1023_1015.out; have hnc29 := NB1015_1023.out; have hnb30 := NB1023_1019.out; have hnc30 := NB1019_1023.out; have hcz31_0 : w27.cell? ⟨gb1023, 0, none⟩ = some (.int .i64 0) := (blk_cell BK1023.out 0).trans rfl; have hcz31_1 : w27.cell? ⟨gb1023, 1, none⟩ = some (.int .u32 0) := (blk_cell BK1023.out 1).trans rfl; have hfz31_0 := blk_frozen BK1023.out 0; have hfz31_1 := blk_frozen BK1023.out 1; have hcz32_0 : w27.cell? ⟨gb1011, 0, none⟩ = some (.int .i64 t1008) := (blk_cell BK1011.out 0).trans rfl; have hcz32_1 : w27.cell? ⟨gb1011, 1, none⟩ = some (.int .u32 t1009) := (blk_cell BK1011.out 1).trans rfl; have hfz32_0 := blk_frozen BK1011.out 0; have hfz32_1 := blk_frozen BK1011.out 1) | ((with_reducible refine gate_callee (f := 59) rfl ?_); refine goesL_ (some 58) rfl rfl Try.func59 (by kernel_rfl) rfl #[.agg #[.int .i64 t1008, .int .u32 t1009]] rfl (by (try simp only [List.map_toArray, List.map_cons, List.map_nil]); first | done | rfl | (simp only [List.length_drop, List.length_take]; rfl)) ?_; (with_reducible refine (impl_PairsOf.calls k t1008 t1009 t1024 t1027 _ A9.out).mono ?_); rintro e w33 ⟨v1025, rfl, ho0, hb⟩; refine ⟨_, rfl, ?_⟩; have n0_ := Aside0.mk (Kd.R_lower ho0 (below_size (by repeat (first | (with_reducible first | exact HB.out | apply below_alloc | apply pw_below_drewN | apply below_drew1 | refine below_set ?_ GE1011.out | refine below_set ?_ GE1015.out | refine below_set ?_ GE1019.out | refine below_set ?_ GE1023.out) | exact HB.out)))); have n1_ := Aside0.mk (blk_below (g := gb1011) (o := .cells #[.int .i64 t1008, .int .u32 t1009] 33 (0, 0)) (by (with_reducible repeat (first | refine blk_drewN ?_ _ | refine blk_drew ?_ | refine blk_alloc ?_ _)); refine blk_far ?_ NB1011_1023.out _; (with_reducible repeat (first | refine blk_drewN ?_ _ | refine blk_drew ?_ | refine blk_alloc ?_ _)); refine blk_far ?_ NB1011_1023.out _; (with_reducible repeat (first | refine blk_drewN ?_ _ | refine blk_drew ?_ | refine blk_alloc ?_ _)); exact BK1011.out) hb); have n2_ := Aside0.mk (blk_below (g := gb1015) (o := .cells #[.int .i64 t1012, .int .u32 t1013] 33 (0, 0)) (by (with_reducible repeat (first | refine blk_drewN ?_ _ | refine blk_drew ?_ | refine blk_alloc ?_ _)); refine blk_far ?_ NB1015_1023.out _; (with_reducible repeat (first | refine blk_drewN ?_ _ | refine blk_drew ?_ | refine blk_alloc ?_ _)); refine blk_far ?_ NB1015_1023.out _; (with_reducible repeat (first | refine blk_drewN ?_ _ | refine blk_drew ?_ | refine blk_alloc ?_ _)); exact BK1015.out) hb); have n3_ := Aside0.mk (blk_below (g := gb1019) (o := .cells #[.int .i64 t1016, .int .u32 t1017] 33 (0, 0)) (by (with_reducible repeat (first | refine blk_drewN ?_ _ | refine blk_drew ?_ | refine blk_alloc ?_ _)); refine blk_far ?_ NB1019_1023.out _; (with_reducible repeat (first | refine blk_drewN ?_ _ | refine blk_drew ?_ | refine blk_alloc ?_ _)); refine blk_far ?_ NB1019_1023.out _; (with_reducible repeat (first | refine blk_drewN ?_ _ | refine blk_drew ?_ | refine blk_alloc ?_ _)); exact BK1019.out) hb); have n4_ := Aside0.mk (blk_below (g := gb1023) (o := .cells #[.int .i64 t1020, .int .u32 t1021] 33 (0, 0)) (by (with_reducible repeat (first | refine blk_drewN ?_ _ | refine blk_drew ?_ | refine blk_alloc ?_ _)); refine blk_put (cs := #[.int .i64 t1020, .int .u32 0]) ?_ 1 _ rfl; (with_reducible repeat (first | refine blk_drewN ?_ _ | refine blk_drew ?_ | refine blk_alloc ?_ _)); refine blk_put (cs := #[.int .i64 0, .int .u32 0]) ?_ 0 _ rfl; (with_reducible repeat (first | refine blk_drewN ?_ _ | refine blk_drew ?_ | refine blk_alloc ?_ _)); exact BK1023.out) hb); have n5_ := Aside0.mk (below_step (by repeat (first | (with_reducible first | exact HB.out | apply below_alloc | apply pw_below_drewN | apply below_drew1 | refine below_set ?_ GE1011.out | refine below_set ?_ GE1015.out | refine below_set ?_ GE1019.out | refine below_set ?_ GE1023.out) | exact HB.out)) hb); clear BK1011; clear BK1015; clear BK1019; clear BK1023; clear HB; have HO1026 := n0_; have BK1011 := n1_; have BK1015 := n2_; have BK1019 := n3_; have BK1023 := n4_; have HB := n5_; clear n0_ n1_ n2_ n3_ n4_ n5_; (try clear hb); (try clear hb2); (try clear hk); (try clear hi); (try clear ho0); have hcz34_0 : w33.cell? ⟨gb1015, 0, none⟩ = some (.int .i64 t1012) := (blk_cell BK1015.out 0).trans rfl; have hcz34_1 : w33.cell? ⟨gb1015, 1, none⟩ = some (.int .u32 t1013) := (blk_cell BK1015.out 1).trans rfl; have hfz34_0 := blk_frozen BK1015.out 0; have hfz34_1 := blk_frozen BK1015.out 1) | ((with_reducible refine gate_callee (f := 59) rfl ?_); refine goesL_ (some 63) rfl rfl Try.func59 (by kernel_rfl) rfl #[.agg #[.int .i64 t1012, .int .u32 t1013]] rfl (by (try simp only [List.map_toArray, List.map_cons, List.map_nil]); first | done | rfl | (simp only [List.length_drop, List.length_take]; rfl)) ?_; (with_reducible refine (impl_PairsOf.calls k t1012 t1013 t1028 t1031 _ A10.out).mono ?_); rintro e w35 ⟨v1029, rfl, ho0, hb⟩; refine ⟨_, rfl, ?_⟩; have n0_ := Aside0.mk (Kd.R_elder' (by (with_reducible repeat (first | apply Kd.R_alloc | apply Kd.R_drewN | apply Kd.R_drew)); exact HO1026.out) (Kd.R_base ho0) hb); have n1_ := Aside0.mk (Kd.R_lower (Kd.R_new' ho0 (Kd.R_lt (by (with_reducible repeat (first | apply Kd.R_alloc | apply Kd.R_drewN | apply Kd.R_drew)); exact HO1026.out))) (below_size (by repeat (first | (with_reducible first | exact HB.out | apply below_alloc | apply pw_below_drewN | apply below_drew1 | refine below_set ?_ GE1011.out | refine below_set ?_ GE1015.out | refine below_set ?_ GE1019.out | refine below_set ?_ GE1023.out) | exact HB.out)))); have n2_ := Aside0.mk (blk_below (g := gb1011) (o := .cells #[.int .i64 t1008, .int .u32 t1009] 33 (0, 0)) (by (with_reducible repeat (first | refine blk_drewN ?_ _ | refine blk_drew ?_ | refine blk_alloc ?_ _)); exact BK1011.out) hb); have n3_ := Aside0.mk (blk_below (g := gb1015) (o := .cells #[.int .i64 t1012, .int .u32 t1013] 33 (0, 0)) (by (with_reducible repeat (first | refine blk_drewN ?_ _ | refine blk_drew ?_ | refine blk_alloc ?_ _)); exact BK1015.out) hb); have n4_ := Aside0.mk (blk_below (g := gb1019) (o := .cells #[.int .i64 t1016, .int .u32 t1017] 33 (0, 0)) (by (with_reducible repeat (first | refine blk_drewN ?_ _ | refine blk_drew ?_ | refine blk_alloc ?_ _)); exact BK1019.out) hb); have n5_ := Aside0.mk (blk_below (g := gb1023) (o := .cells #[.int .i64 t1020, .int .u32 t1021] 33 (0, 0)) (by (with_reducible repeat (first | refine blk_drewN ?_ _ | refine blk_drew ?_ | refine blk_alloc ?_ _)); exact BK1023.out) hb); have n6_ := Aside0.mk (below_step (by repeat (first | (with_reducible first | exact HB.out | apply below_alloc | apply pw_below_drewN | apply below_drew1 | refine below_set ?_ GE1011.out | refine below_set ?_ GE1015.out | refine below_set ?_ GE1019.out | refine below_set ?_ GE1023.out) | exact HB.out)) hb); clear HO1026; clear BK1011; clear BK1015; clear BK1019; clear BK1023; clear HB; have HO1026 := n0_; have HO1030 := n1_; have BK1011 := n2_; have BK1015 := n3_; have BK1019 := n4_; have BK1023 := n5_; have HB := n6_; clear n0_ n1_ n2_ n3_ n4_ n5_ n6_; (try clear hb); (try clear hb2); (try clear hk); (try clear hi); (try clear ho0); have hcz36_0 : w35.cell? ⟨gb1019, 0, none⟩ = some (.int .i64 t1016) := (blk_cell BK1019.out 0).trans rfl; have hcz36_1 : w35.cell? ⟨gb1019, 1, none⟩ = some (.int .u32 t1017) := (blk_cell BK1019.out 1).trans rfl; have hfz36_0 := blk_frozen BK1019.out 0; have hfz36_1 := blk_frozen BK1019.out 1) | ((with_reducible refine gate_callee (f := 59) rfl ?_); refine goesL_ (some 68) rfl rfl Try.func59 (by kernel_rfl) rfl #[.agg #[.int .i64 t1016, .int .u32 t1017]] rfl (by (try simp only [List.map_toArray, List.map_cons, List.map_nil]); first | done | rfl | (simp only [List.length_drop, List.length_take]; rfl)) ?_; (with_reducible refine (impl_PairsOf.calls k t1016 t1017 t1032 t1035 _ A11.out).mono ?_); rintro e w37 ⟨v1033, rfl, ho0, hb⟩; refine ⟨_, rfl, ?_⟩; have n0_ := Aside0.mk (Kd.R_elder' (by (with_reducible repeat (first | apply Kd.R_alloc | apply Kd.R_drewN | apply Kd.R_drew)); exact HO1026.out) (Kd.R_base ho0) hb); have n1_ := Aside0.mk (Kd.R_elder' (by (with_reducible repeat (first | apply Kd.R_alloc | apply Kd.R_drewN | apply Kd.R_drew)); exact HO1030.out) (Kd.R_base ho0) hb); have n2_ := Aside0.mk (Kd.R_lower (Kd.R_new' (Kd.R_new' ho0 (Kd.R_lt (by (with_reducible repeat (first | apply Kd.R_alloc | apply Kd.R_drewN | apply Kd.R_drew)); exact HO1026.out))) (Kd.R_lt (by (with_reducible repeat (first | apply Kd.R_alloc | apply Kd.R_drewN | apply Kd.R_drew)); exact HO1030.out))) (below_size (by repeat (first | (with_reducible first | exact HB.out | apply below_alloc | apply pw_below_drewN | apply below_drew1 | refine below_set ?_ GE1011.out | refine below_set ?_ GE1015.out | refine below_set ?_ GE1019.out | refine below_set ?_ GE1023.out) | exact HB.out)))); have n3_ := Aside0.mk (blk_below (g := gb1011) (o := .cells #[.int .i64 t1008, .int .u32 t1009] 33 (0, 0)) (by (with_reducible repeat (first | refine blk_drewN ?_ _ | refine blk_drew ?_ | refine blk_alloc ?_ _)); exact BK1011.out) hb); have n4_ := Aside0.mk (blk_below (g := gb1015) (o := .cells #[.int .i64 t1012, .int .u32 t1013] 33 (0, 0)) (by (with_reducible repeat (first | refine blk_drewN ?_ _ | refine blk_drew ?_ | refine blk_alloc ?_ _)); exact BK1015.out) hb); have n5_ := Aside0.mk (blk_below (g := gb1019) (o := .cells #[.int .i64 t1016, .int .u32 t1017] 33 (0, 0)) (by (with_reducible repeat (first | refine blk_drewN ?_ _ | refine blk_drew ?_ | refine blk_alloc ?_ _)); exact BK1019.out) hb); have n6_ := Aside0.mk (blk_below (g := gb1023) (o := .cells #[.int .i64 t1020, .int .u32 t1021] 33 (0, 0)) (by (with_reducible repeat (first | refine blk_drewN ?_ _ | refine blk_drew ?_ | refine blk_alloc ?_ _)); exact BK1023.out) hb); have n7_ := Aside0.mk (below_step (by repeat (first | (with_reducible first | exact HB.out | apply below_alloc | apply pw_below_drewN | apply below_drew1 | refine below_set ?_ GE1011.out | refine below_set ?_ GE1015.out | refine below_set ?_ GE1019.out | refine below_set ?_ GE1023.out) | exact HB.out)) hb); clear HO1026; clear HO1030; clear BK1011; clear BK1015; clear BK1019; clear BK1023; clear HB; have HO1026 := n0_; have HO1030 := n1_; have HO1034 := n2_; have BK1011 := n3_; have BK1015 := n4_; have BK1019 := n5_; have BK1023 := n6_; have HB := n7_; clear n0_ n1_ n2_ n3_ n4_ n5_ n6_ n7_; (try clear hb); (try clear hb2); (try clear hk); (try clear hi); (try clear ho0); have hcz38_0 : w37.cell? ⟨gb1023, 0, none⟩ = some (.int .i64 t1020) := (blk_cell BK1023.out 0).trans rfl; have hcz38_1 : w37.cell? ⟨gb1023, 1, none⟩ = some (.int .u32 t1021) := (blk_cell BK1023.out 1).trans rfl; have hfz38_0 := blk_frozen BK1023.out 0; have hfz38_1 := blk_frozen BK1023.out 1) | ((with_reducible refine gate_callee (f := 59) rfl ?_); refine goesL_ (some 73) rfl rfl Try.func59 (by kernel_rfl) rfl #[.agg #[.int .i64 t1020, .int .u32 t1021]] rfl (by (try simp only [List.map_toArray, List.map_cons, List.map_nil]); first | done | rfl | (simp only [List.length_drop, List.length_take]; rfl)) ?_; (with_reducible refine (impl_PairsOf.calls k t1020 t1021 t1036 t1039 _ A12.out).mono ?_); rintro e w39 ⟨v1037, rfl, ho0, hb⟩; refine ⟨_, rfl, ?_⟩; have n0_ := Aside0.mk (Kd.R_elder' (by (with_reducible repeat (first | apply Kd.R_alloc | apply Kd.R_drewN | apply Kd.R_drew)); exact HO1026.out) (Kd.R_base ho0) hb); have n1_ := Aside0.mk (Kd.R_elder' (by (with_reducible repeat (first | apply Kd.R_alloc | apply Kd.R_drewN | apply Kd.R_drew)); exact HO1030.out) (Kd.R_base ho0) hb); have n2_ := Aside0.mk (Kd.R_elder' (by (with_reducible repeat (first | apply Kd.R_alloc | apply Kd.R_drewN | apply Kd.R_drew)); exact HO1034.out) (Kd.R_base ho0) hb); have n3_ := Aside0.mk (Kd.R_lower (Kd.R_new' (Kd.R_new' (Kd.R_new' ho0 (Kd.R_lt (by (with_reducible repeat (first | apply Kd.R_alloc | apply Kd.R_drewN | apply Kd.R_drew)); exact HO1026.out))) (Kd.R_lt (by (with_reducible repeat (first | apply Kd.R_alloc | apply Kd.R_drewN | apply Kd.R_drew)); exact HO1030.out))) (Kd.R_lt (by (with_reducible repeat (first | apply Kd.R_alloc | apply Kd.R_drewN | apply Kd.R_drew)); exact HO1034.out))) (below_size (by repeat (first | (with_reducible first | exact HB.out | apply below_alloc | apply pw_below_drewN | apply below_drew1 | refine below_set ?_ GE1011.out | refine below_set ?_ GE1015.out | refine below_set ?_ GE1019.out | refine below_set ?_ GE1023.out) | exact HB.out)))); have n4_ := Aside0.mk (blk_below (g := gb1011) (o := .cells #[.int .i64 t1008, .int .u32 t1009] 33 (0, 0)) (by (with_reducible repeat (first | refine blk_drewN ?_ _ | refine blk_drew ?_ | refine blk_alloc ?_ _)); exact BK1011.out) hb); have n5_ := Aside0.mk (blk_below (g := gb1015) (o := .cells #[.int .i64 t1012, .int .u32 t1013] 33 (0, 0)) (by (with_reducible repeat (first | refine blk_drewN ?_ _ | refine blk_drew ?_ | refine blk_alloc ?_ _)); exact BK1015.out) hb); have n6_ := Aside0.mk (blk_below (g := gb1019) (o := .cells #[.int .i64 t1016, .int .u32 t1017] 33 (0, 0)) (by (with_reducible repeat (first | refine blk_drewN ?_ _ | refine blk_drew ?_ | refine blk_alloc ?_ _)); exact BK1019.out) hb); have n7_ := Aside0.mk (blk_below (g := gb1023) (o := .cells #[.int .i64 t1020, .int .u32 t1021] 33 (0, 0)) (by (with_reducible repeat (first | refine blk_drewN ?_ _ | refine blk_drew ?_ | refine blk_alloc ?_ _)); exact BK1023.out) hb); have n8_ := Aside0.mk (below_step (by repeat (first | (with_reducible first | exact HB.out | apply below_alloc | apply pw_below_drewN | apply below_drew1 | refine below_set ?_ GE1011.out | refine below_set ?_ GE1015.out | refine below_set ?_ GE1019.out | refine below_set ?_ GE1023.out) | exact HB.out)) hb); clear HO1026; clear HO1030; clear HO1034; clear BK1011; clear BK1015; clear BK1019; clear BK1023; clear HB; have HO1026 := n0_; have HO1030 := n1_; have HO1034 := n2_; have HO1038 := n3_; have BK1011 := n4_; have BK1015 := n5_; have BK1019 := n6_; have BK1023 := n7_; have HB := n8_; clear n0_ n1_ n2_ n3_ n4_ n5_ n6_ n7_ n8_; (try clear hb); (try clear hb2); (try clear hk); (try clear hi); (try clear ho0)))
    (try simp only [Act.put, List.setIfInBounds_toArray, List.set_cons_zero, List.set_cons_succ])
    go_cut [135] (fun v135 wc => ∃ (kq : Nat) (x135_12 : Bool), v135 = .bool x135_12 ∧ Aside0 (laws_FnBuilt.j0 kq (wrap64 (3 + t1007)) x135_12 t1008 t1009 t1012 t1013 t1016 t1017 = some r) ∧ Aside0 (kq ≤ k) ∧ Aside0 (wc.heap[gb1011]? = some (.cells #[.int .i64 t1008, .int .u32 t1009] 33 (0, 0))) ∧ Aside0 (wc.heap[gb1015]? = some (.cells #[.int .i64 t1012, .int .u32 t1013] 33 (0, 0))) ∧ Aside0 (wc.heap[gb1019]? = some (.cells #[.int .i64 t1016, .int .u32 t1017] 33 (0, 0))) ∧ Aside0 (wc.heap[gb1023]? = some (.cells #[.int .i64 t1020, .int .u32 t1021] 33 (0, 0))) ∧ Aside0 (Below w.heap.size w wc))
    case first =>
      have H := HC13.out
      clear HC13
      by_cases c40 : t1010 = 0
      · rw [if_pos c40] at H
        have c40b0 : (t1010 == 0) = true := beq_iff_eq.mpr c40
        have c40b1 : (t1010 != 0) = false := bne_eq_false_iff_eq.mpr c40
        clear c40
        (first | rw [c40b0] | (simp only [i64_w, i32_w]; rw [c40b0]) | skip)
        by_cases c41 : t1014 = 0
        · rw [if_pos c41] at H
          have c41b0 : (t1014 == 0) = true := beq_iff_eq.mpr c41
          have c41b1 : (t1014 != 0) = false := bne_eq_false_iff_eq.mpr c41
          clear c41
          by_cases c42 : t1018 = 0
          · rw [if_pos c42] at H
            have c42b0 : (t1018 == 0) = true := beq_iff_eq.mpr c42
            have c42b1 : (t1018 != 0) = false := bne_eq_false_iff_eq.mpr c42
            clear c42
            by_cases c43 : t1022 = 0
            · rw [if_pos c43] at H
              have c43b0 : (t1022 == 0) = true := beq_iff_eq.mpr c43
              have c43b1 : (t1022 != 0) = false := bne_eq_false_iff_eq.mpr c43
              clear c43
              by_cases c44 : t1027 = 0
              · rw [if_pos c44] at H
                have c44b0 : (t1027 == 0) = true := beq_iff_eq.mpr c44
                have c44b1 : (t1027 != 0) = false := bne_eq_false_iff_eq.mpr c44
                clear c44
                by_cases c45 : t1031 = 0
                · rw [if_pos c45] at H
                  have c45b0 : (t1031 == 0) = true := beq_iff_eq.mpr c45
                  have c45b1 : (t1031 != 0) = false := bne_eq_false_iff_eq.mpr c45
                  clear c45
                  by_cases c46 : t1035 = 0
                  · rw [if_pos c46] at H
                    have c46b0 : (t1035 == 0) = true := beq_iff_eq.mpr c46
                    have c46b1 : (t1035 != 0) = false := bne_eq_false_iff_eq.mpr c46
                    clear c46
                    by_cases c47 : t1039 = 0
                    · rw [if_pos c47] at H
                      have c47b0 : (t1039 == 0) = true := beq_iff_eq.mpr c47
                      have c47b1 : (t1039 != 0) = false := bne_eq_false_iff_eq.mpr c47
                      clear c47
                      by_cases c48 : (t1024.length : Int) = (wrap64 (Int.tdiv (wrap64 ((wrap64 (3 + t1007)) * (wrap64 ((wrap64 (3 + t1007)) - 1)))) 2))
                      · rw [if_pos c48] at H
                        have c48b0 : ((t1024.length : Int) == (wrap64 (Int.tdiv (wrap64 ((wrap64 (3 + t1007)) * (wrap64 ((wrap64 (3 + t1007)) - 1)))) 2))) = true := beq_iff_eq.mpr c48
                        have c48b1 : ((t1024.length : Int) != (wrap64 (Int.tdiv (wrap64 ((wrap64 (3 + t1007)) * (wrap64 ((wrap64 (3 + t1007)) - 1)))) 2))) = false := bne_eq_false_iff_eq.mpr c48
                        clear c48
                        by_cases c49 : (t1028.length : Int) = (wrap64 (3 + t1007))
                        · rw [if_pos c49] at H
                          have c49b0 : ((t1028.length : Int) == (wrap64 (3 + t1007))) = true := beq_iff_eq.mpr c49
                          have c49b1 : ((t1028.length : Int) != (wrap64 (3 + t1007))) = false := bne_eq_false_iff_eq.mpr c49
                          clear c49
                          by_cases c50 : (t1032.length : Int) = (wrap64 ((wrap64 (3 + t1007)) - 1))
                          · rw [if_pos c50] at H
                            have c50b0 : ((t1032.length : Int) == (wrap64 ((wrap64 (3 + t1007)) - 1))) = true := beq_iff_eq.mpr c50
                            have c50b1 : ((t1032.length : Int) != (wrap64 ((wrap64 (3 + t1007)) - 1))) = false := bne_eq_false_iff_eq.mpr c50
                            clear c50
                            have H' := Aside0.mk H
                            clear H
                            obtain ⟨Ao51, co51, eo51⟩ := Kd.R_slice HO1026.out
                            subst eo51
                            obtain ⟨Ao52, co52, eo52⟩ := Kd.R_slice HO1030.out
                            subst eo52
                            obtain ⟨Ao53, co53, eo53⟩ := Kd.R_slice HO1034.out
                            subst eo53
                            obtain ⟨Ao54, co54, eo54⟩ := Kd.R_slice HO1038.out
                            subst eo54
                            go_wp2
                            go_meet
                            case rel => exact ⟨_, (((t1036.length : Int) != (wrap64 ((wrap64 (3 + t1007)) - 1)))), (by first | rfl | (simp; done) | (simp [*]; done)), H', ⟨by first | omega | exact Nat.le_refl _⟩, ⟨by (with_reducible repeat (first | refine blk_drewN ?_ _ | refine blk_drew ?_ | refine blk_alloc ?_ _)); exact BK1011.out⟩, ⟨by (with_reducible repeat (first | refine blk_drewN ?_ _ | refine blk_drew ?_ | refine blk_alloc ?_ _)); exact BK1015.out⟩, ⟨by (with_reducible repeat (first | refine blk_drewN ?_ _ | refine blk_drew ?_ | refine blk_alloc ?_ _)); exact BK1019.out⟩, ⟨by (with_reducible repeat (first | refine blk_drewN ?_ _ | refine blk_drew ?_ | refine blk_alloc ?_ _)); exact BK1023.out⟩, ⟨by repeat (first | (with_reducible first | exact HB.out | apply below_alloc | apply pw_below_drewN | apply below_drew1 | refine below_set ?_ GE1011.out | refine below_set ?_ GE1015.out | refine below_set ?_ GE1019.out | refine below_set ?_ GE1023.out) | exact HB.out)⟩⟩
                          · rw [if_neg c50] at H
                            have c50b0 : ((t1032.length : Int) == (wrap64 ((wrap64 (3 + t1007)) - 1))) = false := beq_eq_false_iff_ne.mpr c50
                            have c50b1 : ((t1032.length : Int) != (wrap64 ((wrap64 (3 + t1007)) - 1))) = true := bne_iff_ne.mpr c50
                            have H' := Aside0.mk H
                            clear H
                            obtain ⟨Ao55, co55, eo55⟩ := Kd.R_slice HO1026.out
                            subst eo55
                            obtain ⟨Ao56, co56, eo56⟩ := Kd.R_slice HO1030.out
                            subst eo56
                            obtain ⟨Ao57, co57, eo57⟩ := Kd.R_slice HO1034.out
                            subst eo57
                            go_wp2
                            go_meet
                            case rel => exact ⟨_, (true), (by first | rfl | (simp; done) | (simp [*]; done)), H', ⟨by first | omega | exact Nat.le_refl _⟩, ⟨by (with_reducible repeat (first | refine blk_drewN ?_ _ | refine blk_drew ?_ | refine blk_alloc ?_ _)); exact BK1011.out⟩, ⟨by (with_reducible repeat (first | refine blk_drewN ?_ _ | refine blk_drew ?_ | refine blk_alloc ?_ _)); exact BK1015.out⟩, ⟨by (with_reducible repeat (first | refine blk_drewN ?_ _ | refine blk_drew ?_ | refine blk_alloc ?_ _)); exact BK1019.out⟩, ⟨by (with_reducible repeat (first | refine blk_drewN ?_ _ | refine blk_drew ?_ | refine blk_alloc ?_ _)); exact BK1023.out⟩, ⟨by repeat (first | (with_reducible first | exact HB.out | apply below_alloc | apply pw_below_drewN | apply below_drew1 | refine below_set ?_ GE1011.out | refine below_set ?_ GE1015.out | refine below_set ?_ GE1019.out | refine below_set ?_ GE1023.out) | exact HB.out)⟩⟩
                        · rw [if_neg c49] at H
                          have c49b0 : ((t1028.length : Int) == (wrap64 (3 + t1007))) = false := beq_eq_false_iff_ne.mpr c49
                          have c49b1 : ((t1028.length : Int) != (wrap64 (3 + t1007))) = true := bne_iff_ne.mpr c49
                          have H' := Aside0.mk H
                          clear H
                          obtain ⟨Ao58, co58, eo58⟩ := Kd.R_slice HO1026.out
                          subst eo58
                          obtain ⟨Ao59, co59, eo59⟩ := Kd.R_slice HO1030.out
                          subst eo59
                          go_wp2
                          go_meet
                          case rel => exact ⟨_, (true), (by first | rfl | (simp; done) | (simp [*]; done)), H', ⟨by first | omega | exact Nat.le_refl _⟩, ⟨by (with_reducible repeat (first | refine blk_drewN ?_ _ | refine blk_drew ?_ | refine blk_alloc ?_ _)); exact BK1011.out⟩, ⟨by (with_reducible repeat (first | refine blk_drewN ?_ _ | refine blk_drew ?_ | refine blk_alloc ?_ _)); exact BK1015.out⟩, ⟨by (with_reducible repeat (first | refine blk_drewN ?_ _ | refine blk_drew ?_ | refine blk_alloc ?_ _)); exact BK1019.out⟩, ⟨by (with_reducible repeat (first | refine blk_drewN ?_ _ | refine blk_drew ?_ | refine blk_alloc ?_ _)); exact BK1023.out⟩, ⟨by repeat (first | (with_reducible first | exact HB.out | apply below_alloc | apply pw_below_drewN | apply below_drew1 | refine below_set ?_ GE1011.out | refine below_set ?_ GE1015.out | refine below_set ?_ GE1019.out | refine below_set ?_ GE1023.out) | exact HB.out)⟩⟩
                      · rw [if_neg c48] at H
                        have c48b0 : ((t1024.length : Int) == (wrap64 (Int.tdiv (wrap64 ((wrap64 (3 + t1007)) * (wrap64 ((wrap64 (3 + t1007)) - 1)))) 2))) = false := beq_eq_false_iff_ne.mpr c48
                        have c48b1 : ((t1024.length : Int) != (wrap64 (Int.tdiv (wrap64 ((wrap64 (3 + t1007)) * (wrap64 ((wrap64 (3 + t1007)) - 1)))) 2))) = true := bne_iff_ne.mpr c48
                        have H' := Aside0.mk H
                        clear H
                        obtain ⟨Ao60, co60, eo60⟩ := Kd.R_slice HO1026.out
                        subst eo60
                        go_wp2
                        go_meet
                        case rel => exact ⟨_, (true), (by first | rfl | (simp; done) | (simp [*]; done)), H', ⟨by first | omega | exact Nat.le_refl _⟩, ⟨by (with_reducible repeat (first | refine blk_drewN ?_ _ | refine blk_drew ?_ | refine blk_alloc ?_ _)); exact BK1011.out⟩, ⟨by (with_reducible repeat (first | refine blk_drewN ?_ _ | refine blk_drew ?_ | refine blk_alloc ?_ _)); exact BK1015.out⟩, ⟨by (with_reducible repeat (first | refine blk_drewN ?_ _ | refine blk_drew ?_ | refine blk_alloc ?_ _)); exact BK1019.out⟩, ⟨by (with_reducible repeat (first | refine blk_drewN ?_ _ | refine blk_drew ?_ | refine blk_alloc ?_ _)); exact BK1023.out⟩, ⟨by repeat (first | (with_reducible first | exact HB.out | apply below_alloc | apply pw_below_drewN | apply below_drew1 | refine below_set ?_ GE1011.out | refine below_set ?_ GE1015.out | refine below_set ?_ GE1019.out | refine below_set ?_ GE1023.out) | exact HB.out)⟩⟩
                    · rw [if_neg c47] at H
                      have c47b0 : (t1039 == 0) = false := beq_eq_false_iff_ne.mpr c47
                      have c47b1 : (t1039 != 0) = true := bne_iff_ne.mpr c47
                      have H' := Aside0.mk H
                      clear H
                      go_wp2
                      go_meet
                      case rel => exact ⟨_, (true), (by first | rfl | (simp; done) | (simp [*]; done)), H', ⟨by first | omega | exact Nat.le_refl _⟩, ⟨by (with_reducible repeat (first | refine blk_drewN ?_ _ | refine blk_drew ?_ | refine blk_alloc ?_ _)); exact BK1011.out⟩, ⟨by (with_reducible repeat (first | refine blk_drewN ?_ _ | refine blk_drew ?_ | refine blk_alloc ?_ _)); exact BK1015.out⟩, ⟨by (with_reducible repeat (first | refine blk_drewN ?_ _ | refine blk_drew ?_ | refine blk_alloc ?_ _)); exact BK1019.out⟩, ⟨by (with_reducible repeat (first | refine blk_drewN ?_ _ | refine blk_drew ?_ | refine blk_alloc ?_ _)); exact BK1023.out⟩, ⟨by repeat (first | (with_reducible first | exact HB.out | apply below_alloc | apply pw_below_drewN | apply below_drew1 | refine below_set ?_ GE1011.out | refine below_set ?_ GE1015.out | refine below_set ?_ GE1019.out | refine below_set ?_ GE1023.out) | exact HB.out)⟩⟩
                  · rw [if_neg c46] at H
                    have c46b0 : (t1035 == 0) = false := beq_eq_false_iff_ne.mpr c46
                    have c46b1 : (t1035 != 0) = true := bne_iff_ne.mpr c46
                    have H' := Aside0.mk H
                    clear H
                    go_wp2
                    go_meet
                    case rel => exact ⟨_, (true), (by first | rfl | (simp; done) | (simp [*]; done)), H', ⟨by first | omega | exact Nat.le_refl _⟩, ⟨by (with_reducible repeat (first | refine blk_drewN ?_ _ | refine blk_drew ?_ | refine blk_alloc ?_ _)); exact BK1011.out⟩, ⟨by (with_reducible repeat (first | refine blk_drewN ?_ _ | refine blk_drew ?_ | refine blk_alloc ?_ _)); exact BK1015.out⟩, ⟨by (with_reducible repeat (first | refine blk_drewN ?_ _ | refine blk_drew ?_ | refine blk_alloc ?_ _)); exact BK1019.out⟩, ⟨by (with_reducible repeat (first | refine blk_drewN ?_ _ | refine blk_drew ?_ | refine blk_alloc ?_ _)); exact BK1023.out⟩, ⟨by repeat (first | (with_reducible first | exact HB.out | apply below_alloc | apply pw_below_drewN | apply below_drew1 | refine below_set ?_ GE1011.out | refine below_set ?_ GE1015.out | refine below_set ?_ GE1019.out | refine below_set ?_ GE1023.out) | exact HB.out)⟩⟩
                · rw [if_neg c45] at H
                  have c45b0 : (t1031 == 0) = false := beq_eq_false_iff_ne.mpr c45
                  have c45b1 : (t1031 != 0) = true := bne_iff_ne.mpr c45
                  have H' := Aside0.mk H
                  clear H
                  go_wp2
                  go_meet
                  case rel => exact ⟨_, (true), (by first | rfl | (simp; done) | (simp [*]; done)), H', ⟨by first | omega | exact Nat.le_refl _⟩, ⟨by (with_reducible repeat (first | refine blk_drewN ?_ _ | refine blk_drew ?_ | refine blk_alloc ?_ _)); exact BK1011.out⟩, ⟨by (with_reducible repeat (first | refine blk_drewN ?_ _ | refine blk_drew ?_ | refine blk_alloc ?_ _)); exact BK1015.out⟩, ⟨by (with_reducible repeat (first | refine blk_drewN ?_ _ | refine blk_drew ?_ | refine blk_alloc ?_ _)); exact BK1019.out⟩, ⟨by (with_reducible repeat (first | refine blk_drewN ?_ _ | refine blk_drew ?_ | refine blk_alloc ?_ _)); exact BK1023.out⟩, ⟨by repeat (first | (with_reducible first | exact HB.out | apply below_alloc | apply pw_below_drewN | apply below_drew1 | refine below_set ?_ GE1011.out | refine below_set ?_ GE1015.out | refine below_set ?_ GE1019.out | refine below_set ?_ GE1023.out) | exact HB.out)⟩⟩
              · rw [if_neg c44] at H
                have c44b0 : (t1027 == 0) = false := beq_eq_false_iff_ne.mpr c44
                have c44b1 : (t1027 != 0) = true := bne_iff_ne.mpr c44
                have H' := Aside0.mk H
                clear H
                go_wp2
                go_meet
                case rel => exact ⟨_, (true), (by first | rfl | (simp; done) | (simp [*]; done)), H', ⟨by first | omega | exact Nat.le_refl _⟩, ⟨by (with_reducible repeat (first | refine blk_drewN ?_ _ | refine blk_drew ?_ | refine blk_alloc ?_ _)); exact BK1011.out⟩, ⟨by (with_reducible repeat (first | refine blk_drewN ?_ _ | refine blk_drew ?_ | refine blk_alloc ?_ _)); exact BK1015.out⟩, ⟨by (with_reducible repeat (first | refine blk_drewN ?_ _ | refine blk_drew ?_ | refine blk_alloc ?_ _)); exact BK1019.out⟩, ⟨by (with_reducible repeat (first | refine blk_drewN ?_ _ | refine blk_drew ?_ | refine blk_alloc ?_ _)); exact BK1023.out⟩, ⟨by repeat (first | (with_reducible first | exact HB.out | apply below_alloc | apply pw_below_drewN | apply below_drew1 | refine below_set ?_ GE1011.out | refine below_set ?_ GE1015.out | refine below_set ?_ GE1019.out | refine below_set ?_ GE1023.out) | exact HB.out)⟩⟩
            · rw [if_neg c43] at H
              have c43b0 : (t1022 == 0) = false := beq_eq_false_iff_ne.mpr c43
              have c43b1 : (t1022 != 0) = true := bne_iff_ne.mpr c43
              have H' := Aside0.mk H
              clear H
              go_wp2
              go_meet
              case rel => exact ⟨_, (true), (by first | rfl | (simp; done) | (simp [*]; done)), H', ⟨by first | omega | exact Nat.le_refl _⟩, ⟨by (with_reducible repeat (first | refine blk_drewN ?_ _ | refine blk_drew ?_ | refine blk_alloc ?_ _)); exact BK1011.out⟩, ⟨by (with_reducible repeat (first | refine blk_drewN ?_ _ | refine blk_drew ?_ | refine blk_alloc ?_ _)); exact BK1015.out⟩, ⟨by (with_reducible repeat (first | refine blk_drewN ?_ _ | refine blk_drew ?_ | refine blk_alloc ?_ _)); exact BK1019.out⟩, ⟨by (with_reducible repeat (first | refine blk_drewN ?_ _ | refine blk_drew ?_ | refine blk_alloc ?_ _)); exact BK1023.out⟩, ⟨by repeat (first | (with_reducible first | exact HB.out | apply below_alloc | apply pw_below_drewN | apply below_drew1 | refine below_set ?_ GE1011.out | refine below_set ?_ GE1015.out | refine below_set ?_ GE1019.out | refine below_set ?_ GE1023.out) | exact HB.out)⟩⟩
          · rw [if_neg c42] at H
            have c42b0 : (t1018 == 0) = false := beq_eq_false_iff_ne.mpr c42
            have c42b1 : (t1018 != 0) = true := bne_iff_ne.mpr c42
            have H' := Aside0.mk H
            clear H
            go_wp2
            go_meet
            case rel => exact ⟨_, (true), (by first | rfl | (simp; done) | (simp [*]; done)), H', ⟨by first | omega | exact Nat.le_refl _⟩, ⟨by (with_reducible repeat (first | refine blk_drewN ?_ _ | refine blk_drew ?_ | refine blk_alloc ?_ _)); exact BK1011.out⟩, ⟨by (with_reducible repeat (first | refine blk_drewN ?_ _ | refine blk_drew ?_ | refine blk_alloc ?_ _)); exact BK1015.out⟩, ⟨by (with_reducible repeat (first | refine blk_drewN ?_ _ | refine blk_drew ?_ | refine blk_alloc ?_ _)); exact BK1019.out⟩, ⟨by (with_reducible repeat (first | refine blk_drewN ?_ _ | refine blk_drew ?_ | refine blk_alloc ?_ _)); exact BK1023.out⟩, ⟨by repeat (first | (with_reducible first | exact HB.out | apply below_alloc | apply pw_below_drewN | apply below_drew1 | refine below_set ?_ GE1011.out | refine below_set ?_ GE1015.out | refine below_set ?_ GE1019.out | refine below_set ?_ GE1023.out) | exact HB.out)⟩⟩
        · rw [if_neg c41] at H
          have c41b0 : (t1014 == 0) = false := beq_eq_false_iff_ne.mpr c41
          have c41b1 : (t1014 != 0) = true := bne_iff_ne.mpr c41
          have H' := Aside0.mk H
          clear H
          go_wp2
          go_meet
          case rel => exact ⟨_, (true), (by first | rfl | (simp; done) | (simp [*]; done)), H', ⟨by first | omega | exact Nat.le_refl _⟩, ⟨by (with_reducible repeat (first | refine blk_drewN ?_ _ | refine blk_drew ?_ | refine blk_alloc ?_ _)); exact BK1011.out⟩, ⟨by (with_reducible repeat (first | refine blk_drewN ?_ _ | refine blk_drew ?_ | refine blk_alloc ?_ _)); exact BK1015.out⟩, ⟨by (with_reducible repeat (first | refine blk_drewN ?_ _ | refine blk_drew ?_ | refine blk_alloc ?_ _)); exact BK1019.out⟩, ⟨by (with_reducible repeat (first | refine blk_drewN ?_ _ | refine blk_drew ?_ | refine blk_alloc ?_ _)); exact BK1023.out⟩, ⟨by repeat (first | (with_reducible first | exact HB.out | apply below_alloc | apply pw_below_drewN | apply below_drew1 | refine below_set ?_ GE1011.out | refine below_set ?_ GE1015.out | refine below_set ?_ GE1019.out | refine below_set ?_ GE1023.out) | exact HB.out)⟩⟩
      · rw [if_neg c40] at H
        have c40b0 : (t1010 == 0) = false := beq_eq_false_iff_ne.mpr c40
        have c40b1 : (t1010 != 0) = true := bne_iff_ne.mpr c40
        (first | rw [c40b0] | (simp only [i64_w, i32_w]; rw [c40b0]) | skip)
        have H' := Aside0.mk H
        clear H
        go_wp2
        go_meet
        case rel => exact ⟨_, (true), (by first | rfl | (simp; done) | (simp [*]; done)), H', ⟨by first | omega | exact Nat.le_refl _⟩, ⟨by (with_reducible repeat (first | refine blk_drewN ?_ _ | refine blk_drew ?_ | refine blk_alloc ?_ _)); exact BK1011.out⟩, ⟨by (with_reducible repeat (first | refine blk_drewN ?_ _ | refine blk_drew ?_ | refine blk_alloc ?_ _)); exact BK1015.out⟩, ⟨by (with_reducible repeat (first | refine blk_drewN ?_ _ | refine blk_drew ?_ | refine blk_alloc ?_ _)); exact BK1019.out⟩, ⟨by (with_reducible repeat (first | refine blk_drewN ?_ _ | refine blk_drew ?_ | refine blk_alloc ?_ _)); exact BK1023.out⟩, ⟨by repeat (first | (with_reducible first | exact HB.out | apply below_alloc | apply pw_below_drewN | apply below_drew1 | refine below_set ?_ GE1011.out | refine below_set ?_ GE1015.out | refine below_set ?_ GE1019.out | refine below_set ?_ GE1023.out) | exact HB.out)⟩⟩
    case rest =>
      clear HC13
      try clear c1
      try clear c2
      try clear p2
      try clear c3
      try clear c4
      try clear c5
      try clear p6
      try clear c14
      try clear c19
      try clear c23
      try clear c24
      try clear c28
      try clear c29
      try clear c30
      try clear c40
      try clear c40b0
      try clear c40b1
      try clear c41
      try clear c41b0
      try clear c41b1
      try clear c42
      try clear c42b0
      try clear c42b1
      try clear c43
      try clear c43b0
      try clear c43b1
      try clear c44
      try clear c44b0
      try clear c44b1
      try clear c45
      try clear c45b0
      try clear c45b1
      try clear c46
      try clear c46b0
      try clear c46b1
      try clear c47
      try clear c47b0
      try clear c47b1
      try clear c48
      try clear c48b0
      try clear c48b1
      try clear c49
      try clear c49b0
      try clear c49b1
      try clear c50
      try clear c50b0
      try clear c50b1
      try clear c53
      try clear c54
      try clear c55
      try clear c56
      try clear c57
      try clear c58
      try clear c59
      try clear hcz16_0
      try clear hcz16_1
      try clear hcz20_0
      try clear hcz20_1
      try clear hcz25_0
      try clear hcz25_1
      try clear hcz31_0
      try clear hcz31_1
      try clear hcz32_0
      try clear hcz32_1
      try clear hcz34_0
      try clear hcz34_1
      try clear hcz36_0
      try clear hcz36_1
      try clear hcz38_0
      try clear hcz38_1
      try clear hfz16_0
      try clear hfz16_1
      try clear hfz20_0
      try clear hfz20_1
      try clear hfz25_0
      try clear hfz25_1
      try clear hfz31_0
      try clear hfz31_1
      try clear hfz32_0
      try clear hfz32_1
      try clear hfz34_0
      try clear hfz34_1
      try clear hfz36_0
      try clear hfz36_1
      try clear hfz38_0
      try clear hfz38_1
      obtain ⟨kq, x135_12, rfl, HA, HJ12, BK1011, BK1015, BK1019, BK1023, HB⟩ := hcut
      cases kq with
      | zero => exact absurd HA.out (by simp [laws_FnBuilt.j0])
      | succ kj12 =>
        have H := HA.out
        clear HA
        simp only [laws_FnBuilt.j0] at H
        by_cases c61 : x135_12 = true
        · subst c61
          have H1 : (some false) = some r := by rw [if_pos rfl] at H; exact H
          clear H
          have H := H1
          clear H1
          obtain rfl := Option.some.inj H
          go_wp2
          go_ret
          exact ⟨by first | rfl | (simp [errW_none, errW_some] <;> rfl) | (simp [*, errW_none, errW_some] <;> rfl), by repeat (first | (with_reducible first | exact HB.out | apply below_alloc | apply pw_below_drewN | apply below_drew1 | refine below_set ?_ GE1011.out | refine below_set ?_ GE1015.out | refine below_set ?_ GE1019.out | refine below_set ?_ GE1023.out) | exact HB.out)⟩
        · replace c61 := Bool.eq_false_iff.mpr c61
          subst c61
          have H1 : ((impl_CountSelf.f t1012 t1013).bind fun bt1040 => ((impl_CountSelf.f t1008 t1009).bind fun bt1042 => ((impl_HasPart.f t1012 t1013 t1016 t1017).bind fun bt1044 => ((impl_HasPart.f t1016 t1017 t1012 t1013).bind fun bt1046 => (laws_FnBuilt.l0 kj12 (wrap64 (3 + t1007)) bt1040.1 bt1040.2 bt1042.1 bt1042.2 bt1044.1 bt1044.2 bt1046.1 bt1046.2 1 2))))) = some r := by rw [if_neg (show ¬ (false = true) by decide)] at H; exact H
          clear H
          have H := H1
          clear H1
          replace H := Option.bind_eq_some_iff.mp H
          obtain ⟨⟨t1040, t1041⟩, A620, H⟩ := H
          replace H : ((impl_CountSelf.f t1008 t1009).bind fun bt1042 => ((impl_HasPart.f t1012 t1013 t1016 t1017).bind fun bt1044 => ((impl_HasPart.f t1016 t1017 t1012 t1013).bind fun bt1046 => (laws_FnBuilt.l0 kj12 (wrap64 (3 + t1007)) t1040 t1041 bt1042.1 bt1042.2 bt1044.1 bt1044.2 bt1046.1 bt1046.2 1 2)))) = some r := H
          have A62 := Aside0.mk A620
          clear A620
          replace H := Option.bind_eq_some_iff.mp H
          obtain ⟨⟨t1042, t1043⟩, A630, H⟩ := H
          replace H : ((impl_HasPart.f t1012 t1013 t1016 t1017).bind fun bt1044 => ((impl_HasPart.f t1016 t1017 t1012 t1013).bind fun bt1046 => (laws_FnBuilt.l0 kj12 (wrap64 (3 + t1007)) t1040 t1041 t1042 t1043 bt1044.1 bt1044.2 bt1046.1 bt1046.2 1 2))) = some r := H
          have A63 := Aside0.mk A630
          clear A630
          replace H := Option.bind_eq_some_iff.mp H
          obtain ⟨⟨t1044, t1045⟩, A640, H⟩ := H
          replace H : ((impl_HasPart.f t1016 t1017 t1012 t1013).bind fun bt1046 => (laws_FnBuilt.l0 kj12 (wrap64 (3 + t1007)) t1040 t1041 t1042 t1043 t1044 t1045 bt1046.1 bt1046.2 1 2)) = some r := H
          have A64 := Aside0.mk A640
          clear A640
          replace H := Option.bind_eq_some_iff.mp H
          obtain ⟨⟨t1046, t1047⟩, A650, H⟩ := H
          replace H : (laws_FnBuilt.l0 kj12 (wrap64 (3 + t1007)) t1040 t1041 t1042 t1043 t1044 t1045 t1046 t1047 1 2) = some r := H
          have A65 := Aside0.mk A650
          clear A650
          have H' := Aside0.mk H
          clear H
          have hnb66 := NB1015_1011.out
          have hnc66 := NB1011_1015.out
          have hnb67 := NB1015_1019.out
          have hnc67 := NB1019_1015.out
          have hnb68 := NB1015_1023.out
          have hnc68 := NB1023_1015.out
          have hcz69_0 : wc.cell? ⟨gb1015, 0, none⟩ = some (.int .i64 t1012) := (blk_cell BK1015.out 0).trans rfl
          have hcz69_1 : wc.cell? ⟨gb1015, 1, none⟩ = some (.int .u32 t1013) := (blk_cell BK1015.out 1).trans rfl
          have hfz69_0 := blk_frozen BK1015.out 0
          have hfz69_1 := blk_frozen BK1015.out 1
          go_wp2_with (first | ((with_reducible refine gate_callee (f := 60) rfl ?_); refine goesL_ (some 138) rfl rfl Try.func60 (by kernel_rfl) rfl #[.agg #[.int .i64 t1012, .int .u32 t1013]] rfl (by (try simp only [List.map_toArray, List.map_cons, List.map_nil]); first | done | rfl | (simp only [List.length_drop, List.length_take]; rfl)) ?_; (with_reducible refine (impl_CountSelf.calls t1012 t1013 t1040 t1041 _ A62.out).mono ?_); rintro e w70 ⟨rfl, hb⟩; refine ⟨_, rfl, ?_⟩; have n0_ := Aside0.mk (blk_below (g := gb1011) (o := .cells #[.int .i64 t1008, .int .u32 t1009] 33 (0, 0)) (by (with_reducible repeat (first | refine blk_drewN ?_ _ | refine blk_drew ?_ | refine blk_alloc ?_ _)); exact BK1011.out) hb); have n1_ := Aside0.mk (blk_below (g := gb1015) (o := .cells #[.int .i64 t1012, .int .u32 t1013] 33 (0, 0)) (by (with_reducible repeat (first | refine blk_drewN ?_ _ | refine blk_drew ?_ | refine blk_alloc ?_ _)); exact BK1015.out) hb); have n2_ := Aside0.mk (blk_below (g := gb1019) (o := .cells #[.int .i64 t1016, .int .u32 t1017] 33 (0, 0)) (by (with_reducible repeat (first | refine blk_drewN ?_ _ | refine blk_drew ?_ | refine blk_alloc ?_ _)); exact BK1019.out) hb); have n3_ := Aside0.mk (blk_below (g := gb1023) (o := .cells #[.int .i64 t1020, .int .u32 t1021] 33 (0, 0)) (by (with_reducible repeat (first | refine blk_drewN ?_ _ | refine blk_drew ?_ | refine blk_alloc ?_ _)); exact BK1023.out) hb); have n4_ := Aside0.mk (below_step (by repeat (first | (with_reducible first | exact HB.out | apply below_alloc | apply pw_below_drewN | apply below_drew1 | refine below_set ?_ GE1011.out | refine below_set ?_ GE1015.out | refine below_set ?_ GE1019.out | refine below_set ?_ GE1023.out) | exact HB.out)) hb); clear BK1011; clear BK1015; clear BK1019; clear BK1023; clear HB; have BK1011 := n0_; have BK1015 := n1_; have BK1019 := n2_; have BK1023 := n3_; have HB := n4_; clear n0_ n1_ n2_ n3_ n4_; (try clear hb); (try clear hb2); (try clear hk); (try clear hi); have hnb71 := NB1011_1019.out; have hnc71 := NB1019_1011.out; have hnb72 := NB1011_1023.out; have hnc72 := NB1023_1011.out; have hcz73_0 : w70.cell? ⟨gb1011, 0, none⟩ = some (.int .i64 t1008) := (blk_cell BK1011.out 0).trans rfl; have hcz73_1 : w70.cell? ⟨gb1011, 1, none⟩ = some (.int .u32 t1009) := (blk_cell BK1011.out 1).trans rfl; have hfz73_0 := blk_frozen BK1011.out 0; have hfz73_1 := blk_frozen BK1011.out 1) | ((with_reducible refine gate_callee (f := 60) rfl ?_); refine goesL_ (some 143) rfl rfl Try.func60 (by kernel_rfl) rfl #[.agg #[.int .i64 t1008, .int .u32 t1009]] rfl (by (try simp only [List.map_toArray, List.map_cons, List.map_nil]); first | done | rfl | (simp only [List.length_drop, List.length_take]; rfl)) ?_; (with_reducible refine (impl_CountSelf.calls t1008 t1009 t1042 t1043 _ A63.out).mono ?_); rintro e w74 ⟨rfl, hb⟩; refine ⟨_, rfl, ?_⟩; have n0_ := Aside0.mk (blk_below (g := gb1011) (o := .cells #[.int .i64 t1008, .int .u32 t1009] 33 (0, 0)) (by (with_reducible repeat (first | refine blk_drewN ?_ _ | refine blk_drew ?_ | refine blk_alloc ?_ _)); exact BK1011.out) hb); have n1_ := Aside0.mk (blk_below (g := gb1015) (o := .cells #[.int .i64 t1012, .int .u32 t1013] 33 (0, 0)) (by (with_reducible repeat (first | refine blk_drewN ?_ _ | refine blk_drew ?_ | refine blk_alloc ?_ _)); exact BK1015.out) hb); have n2_ := Aside0.mk (blk_below (g := gb1019) (o := .cells #[.int .i64 t1016, .int .u32 t1017] 33 (0, 0)) (by (with_reducible repeat (first | refine blk_drewN ?_ _ | refine blk_drew ?_ | refine blk_alloc ?_ _)); exact BK1019.out) hb); have n3_ := Aside0.mk (blk_below (g := gb1023) (o := .cells #[.int .i64 t1020, .int .u32 t1021] 33 (0, 0)) (by (with_reducible repeat (first | refine blk_drewN ?_ _ | refine blk_drew ?_ | refine blk_alloc ?_ _)); exact BK1023.out) hb); have n4_ := Aside0.mk (below_step (by repeat (first | (with_reducible first | exact HB.out | apply below_alloc | apply pw_below_drewN | apply below_drew1 | refine below_set ?_ GE1011.out | refine below_set ?_ GE1015.out | refine below_set ?_ GE1019.out | refine below_set ?_ GE1023.out) | exact HB.out)) hb); clear BK1011; clear BK1015; clear BK1019; clear BK1023; clear HB; have BK1011 := n0_; have BK1015 := n1_; have BK1019 := n2_; have BK1023 := n3_; have HB := n4_; clear n0_ n1_ n2_ n3_ n4_; (try clear hb); (try clear hb2); (try clear hk); (try clear hi); have hcz75_0 : w74.cell? ⟨gb1015, 0, none⟩ = some (.int .i64 t1012) := (blk_cell BK1015.out 0).trans rfl; have hcz75_1 : w74.cell? ⟨gb1015, 1, none⟩ = some (.int .u32 t1013) := (blk_cell BK1015.out 1).trans rfl; have hfz75_0 := blk_frozen BK1015.out 0; have hfz75_1 := blk_frozen BK1015.out 1; have hnb76 := NB1019_1023.out; have hnc76 := NB1023_1019.out; have hcz77_0 : w74.cell? ⟨gb1019, 0, none⟩ = some (.int .i64 t1016) := (blk_cell BK1019.out 0).trans rfl; have hcz77_1 : w74.cell? ⟨gb1019, 1, none⟩ = some (.int .u32 t1017) := (blk_cell BK1019.out 1).trans rfl; have hfz77_0 := blk_frozen BK1019.out 0; have hfz77_1 := blk_frozen BK1019.out 1) | ((with_reducible refine gate_callee (f := 61) rfl ?_); refine goesL_ (some 149) rfl rfl Try.func61 (by kernel_rfl) rfl #[.agg #[.int .i64 t1012, .int .u32 t1013], .agg #[.int .i64 t1016, .int .u32 t1017]] rfl (by (try simp only [List.map_toArray, List.map_cons, List.map_nil]); first | done | rfl | (simp only [List.length_drop, List.length_take]; rfl)) ?_; (with_reducible refine (impl_HasPart.calls t1012 t1013 t1016 t1017 t1044 t1045 _ A64.out).mono ?_); rintro e w78 ⟨rfl, hb⟩; refine ⟨_, rfl, ?_⟩; have n0_ := Aside0.mk (blk_below (g := gb1011) (o := .cells #[.int .i64 t1008, .int .u32 t1009] 33 (0, 0)) (by (with_reducible repeat (first | refine blk_drewN ?_ _ | refine blk_drew ?_ | refine blk_alloc ?_ _)); exact BK1011.out) hb); have n1_ := Aside0.mk (blk_below (g := gb1015) (o := .cells #[.int .i64 t1012, .int .u32 t1013] 33 (0, 0)) (by (with_reducible repeat (first | refine blk_drewN ?_ _ | refine blk_drew ?_ | refine blk_alloc ?_ _)); exact BK1015.out) hb); have n2_ := Aside0.mk (blk_below (g := gb1019) (o := .cells #[.int .i64 t1016, .int .u32 t1017] 33 (0, 0)) (by (with_reducible repeat (first | refine blk_drewN ?_ _ | refine blk_drew ?_ | refine blk_alloc ?_ _)); exact BK1019.out) hb); have n3_ := Aside0.mk (blk_below (g := gb1023) (o := .cells #[.int .i64 t1020, .int .u32 t1021] 33 (0, 0)) (by (with_reducible repeat (first | refine blk_drewN ?_ _ | refine blk_drew ?_ | refine blk_alloc ?_ _)); exact BK1023.out) hb); have n4_ := Aside0.mk (below_step (by repeat (first | (with_reducible first | exact HB.out | apply below_alloc | apply pw_below_drewN | apply below_drew1 | refine below_set ?_ GE1011.out | refine below_set ?_ GE1015.out | refine below_set ?_ GE1019.out | refine below_set ?_ GE1023.out) | exact HB.out)) hb); clear BK1011; clear BK1015; clear BK1019; clear BK1023; clear HB; have BK1011 := n0_; have BK1015 := n1_; have BK1019 := n2_; have BK1023 := n3_; have HB := n4_; clear n0_ n1_ n2_ n3_ n4_; (try clear hb); (try clear hb2); (try clear hk); (try clear hi); have hcz79_0 : w78.cell? ⟨gb1019, 0, none⟩ = some (.int .i64 t1016) := (blk_cell BK1019.out 0).trans rfl; have hcz79_1 : w78.cell? ⟨gb1019, 1, none⟩ = some (.int .u32 t1017) := (blk_cell BK1019.out 1).trans rfl; have hfz79_0 := blk_frozen BK1019.out 0; have hfz79_1 := blk_frozen BK1019.out 1; have hcz80_0 : w78.cell? ⟨gb1015, 0, none⟩ = some (.int .i64 t1012) := (blk_cell BK1015.out 0).trans rfl; have hcz80_1 : w78.cell? ⟨gb1015, 1, none⟩ = some (.int .u32 t1013) := (blk_cell BK1015.out 1).trans rfl; have hfz80_0 := blk_frozen BK1015.out 0; have hfz80_1 := blk_frozen BK1015.out 1) | ((with_reducible refine gate_callee (f := 61) rfl ?_); refine goesL_ (some 155) rfl rfl Try.func61 (by kernel_rfl) rfl #[.agg #[.int .i64 t1016, .int .u32 t1017], .agg #[.int .i64 t1012, .int .u32 t1013]] rfl (by (try simp only [List.map_toArray, List.map_cons, List.map_nil]); first | done | rfl | (simp only [List.length_drop, List.length_take]; rfl)) ?_; (with_reducible refine (impl_HasPart.calls t1016 t1017 t1012 t1013 t1046 t1047 _ A65.out).mono ?_); rintro e w81 ⟨rfl, hb⟩; refine ⟨_, rfl, ?_⟩; have n0_ := Aside0.mk (blk_below (g := gb1011) (o := .cells #[.int .i64 t1008, .int .u32 t1009] 33 (0, 0)) (by (with_reducible repeat (first | refine blk_drewN ?_ _ | refine blk_drew ?_ | refine blk_alloc ?_ _)); exact BK1011.out) hb); have n1_ := Aside0.mk (blk_below (g := gb1015) (o := .cells #[.int .i64 t1012, .int .u32 t1013] 33 (0, 0)) (by (with_reducible repeat (first | refine blk_drewN ?_ _ | refine blk_drew ?_ | refine blk_alloc ?_ _)); exact BK1015.out) hb); have n2_ := Aside0.mk (blk_below (g := gb1019) (o := .cells #[.int .i64 t1016, .int .u32 t1017] 33 (0, 0)) (by (with_reducible repeat (first | refine blk_drewN ?_ _ | refine blk_drew ?_ | refine blk_alloc ?_ _)); exact BK1019.out) hb); have n3_ := Aside0.mk (blk_below (g := gb1023) (o := .cells #[.int .i64 t1020, .int .u32 t1021] 33 (0, 0)) (by (with_reducible repeat (first | refine blk_drewN ?_ _ | refine blk_drew ?_ | refine blk_alloc ?_ _)); exact BK1023.out) hb); have n4_ := Aside0.mk (below_step (by repeat (first | (with_reducible first | exact HB.out | apply below_alloc | apply pw_below_drewN | apply below_drew1 | refine below_set ?_ GE1011.out | refine below_set ?_ GE1015.out | refine below_set ?_ GE1019.out | refine below_set ?_ GE1023.out) | exact HB.out)) hb); clear BK1011; clear BK1015; clear BK1019; clear BK1023; clear HB; have BK1011 := n0_; have BK1015 := n1_; have BK1019 := n2_; have BK1023 := n3_; have HB := n4_; clear n0_ n1_ n2_ n3_ n4_; (try clear hb); (try clear hb2); (try clear hk); (try clear hi)))
          go_loopg [28, 29] kj12 (fun kq v28 v29 w' => ∃ (x28_2 : Int) (x29_2 : Int), v28 = .int .i64 x28_2 ∧ v29 = .int .i64 x29_2 ∧ Aside0 (laws_FnBuilt.l0 kq (wrap64 (3 + t1007)) t1040 t1041 t1042 t1043 t1044 t1045 t1046 t1047 x28_2 x29_2 = some r) ∧ Aside0 (kq ≤ kj12) ∧ Aside0 (w'.heap[gb1011]? = some (.cells #[.int .i64 t1008, .int .u32 t1009] 33 (0, 0))) ∧ Aside0 (w'.heap[gb1015]? = some (.cells #[.int .i64 t1012, .int .u32 t1013] 33 (0, 0))) ∧ Aside0 (w'.heap[gb1019]? = some (.cells #[.int .i64 t1016, .int .u32 t1017] 33 (0, 0))) ∧ Aside0 (w'.heap[gb1023]? = some (.cells #[.int .i64 t1020, .int .u32 t1021] 33 (0, 0))) ∧ Aside0 (Below w.heap.size w w'))
          case atStart => exact ⟨(1), (2), (by first | rfl | (simp; done) | (simp [*]; done)), (by first | rfl | (simp; done) | (simp [*]; done)), H', ⟨Nat.le_refl _⟩, ⟨by (with_reducible repeat (first | refine blk_drewN ?_ _ | refine blk_drew ?_ | refine blk_alloc ?_ _)); exact BK1011.out⟩, ⟨by (with_reducible repeat (first | refine blk_drewN ?_ _ | refine blk_drew ?_ | refine blk_alloc ?_ _)); exact BK1015.out⟩, ⟨by (with_reducible repeat (first | refine blk_drewN ?_ _ | refine blk_drew ?_ | refine blk_alloc ?_ _)); exact BK1019.out⟩, ⟨by (with_reducible repeat (first | refine blk_drewN ?_ _ | refine blk_drew ?_ | refine blk_alloc ?_ _)); exact BK1023.out⟩, ⟨by repeat (first | (with_reducible first | exact HB.out | apply below_alloc | apply pw_below_drewN | apply below_drew1 | refine below_set ?_ GE1011.out | refine below_set ?_ GE1015.out | refine below_set ?_ GE1019.out | refine below_set ?_ GE1023.out) | exact HB.out)⟩⟩
          case round =>
            clear H'
            try clear c1
            try clear c2
            try clear p2
            try clear c3
            try clear c4
            try clear c5
            try clear c6
            try clear p6
            try clear c7
            try clear c14
            try clear c19
            try clear c23
            try clear c24
            try clear c28
            try clear c29
            try clear c30
            try clear c40
            try clear c40b0
            try clear c40b1
            try clear c41
            try clear c41b0
            try clear c41b1
            try clear c42
            try clear c42b0
            try clear c42b1
            try clear c43
            try clear c43b0
            try clear c43b1
            try clear c44
            try clear c44b0
            try clear c44b1
            try clear c45
            try clear c45b0
            try clear c45b1
            try clear c46
            try clear c46b0
            try clear c46b1
            try clear c47
            try clear c47b0
            try clear c47b1
            try clear c48
            try clear c48b0
            try clear c48b1
            try clear c49
            try clear c49b0
            try clear c49b1
            try clear c50
            try clear c50b0
            try clear c50b1
            try clear c53
            try clear c54
            try clear c55
            try clear c56
            try clear c57
            try clear c58
            try clear c59
            try clear c60
            try clear c61
            try clear p64
            try clear c66
            try clear c67
            try clear c68
            try clear c71
            try clear c72
            try clear c76
            try clear hcz16_0
            try clear hcz16_1
            try clear hcz20_0
            try clear hcz20_1
            try clear hcz25_0
            try clear hcz25_1
            try clear hcz31_0
            try clear hcz31_1
            try clear hcz32_0
            try clear hcz32_1
            try clear hcz34_0
            try clear hcz34_1
            try clear hcz36_0
            try clear hcz36_1
            try clear hcz38_0
            try clear hcz38_1
            try clear hcz69_0
            try clear hcz69_1
            try clear hcz73_0
            try clear hcz73_1
            try clear hcz75_0
            try clear hcz75_1
            try clear hcz77_0
            try clear hcz77_1
            try clear hcz79_0
            try clear hcz79_1
            try clear hcz80_0
            try clear hcz80_1
            try clear hfz16_0
            try clear hfz16_1
            try clear hfz20_0
            try clear hfz20_1
            try clear hfz25_0
            try clear hfz25_1
            try clear hfz31_0
            try clear hfz31_1
            try clear hfz32_0
            try clear hfz32_1
            try clear hfz34_0
            try clear hfz34_1
            try clear hfz36_0
            try clear hfz36_1
            try clear hfz38_0
            try clear hfz38_1
            try clear hfz69_0
            try clear hfz69_1
            try clear hfz73_0
            try clear hfz73_1
            try clear hfz75_0
            try clear hfz75_1
            try clear hfz77_0
            try clear hfz77_1
            try clear hfz79_0
            try clear hfz79_1
            try clear hfz80_0
            try clear hfz80_1
            try clear p2
            try clear p6
            obtain ⟨x28_2, x29_2, rfl, rfl, HA, HK2, BK1011, BK1015, BK1019, BK1023, HB⟩ := hrel
            cases gk with
            | zero => exact absurd HA.out (by simp [laws_FnBuilt.l0])
            | succ k2 =>
              have H := HA.out
              clear HA
              simp only [laws_FnBuilt.l0] at H
              by_cases c82 : x29_2 ≤ (wrap64 (3 + t1007))
              · rw [if_pos c82] at H
                have c82b0 : decide (x29_2 ≤ (wrap64 (3 + t1007))) = true := decide_eq_true c82
                clear c82
                have H' := Aside0.mk H
                clear H
                go_wp2
                go_roundg k2
                case measure => have := HJ12.out; have := HK2.out; omega
                case rel => exact ⟨(wrap64 (x28_2 * x29_2)), (wrap64 (x29_2 + 1)), (by first | rfl | (simp; done) | (simp [*]; done)), (by first | rfl | (simp; done) | (simp [*]; done)), H', ⟨by have := HJ12.out; have := HK2.out; omega⟩, ⟨by (with_reducible repeat (first | refine blk_drewN ?_ _ | refine blk_drew ?_ | refine blk_alloc ?_ _)); exact BK1011.out⟩, ⟨by (with_reducible repeat (first | refine blk_drewN ?_ _ | refine blk_drew ?_ | refine blk_alloc ?_ _)); exact BK1015.out⟩, ⟨by (with_reducible repeat (first | refine blk_drewN ?_ _ | refine blk_drew ?_ | refine blk_alloc ?_ _)); exact BK1019.out⟩, ⟨by (with_reducible repeat (first | refine blk_drewN ?_ _ | refine blk_drew ?_ | refine blk_alloc ?_ _)); exact BK1023.out⟩, ⟨by repeat (first | (with_reducible first | exact HB.out | apply below_alloc | apply pw_below_drewN | apply below_drew1 | refine below_set ?_ GE1011.out | refine below_set ?_ GE1015.out | refine below_set ?_ GE1019.out | refine below_set ?_ GE1023.out) | exact HB.out)⟩⟩
              · rw [if_neg c82] at H
                have c82b0 : decide (x29_2 ≤ (wrap64 (3 + t1007))) = false := decide_eq_false c82
                clear c82
                by_cases c83 : t1041 = 0
                · rw [if_pos c83] at H
                  have c83b0 : (t1041 == 0) = true := beq_iff_eq.mpr c83
                  have c83b1 : (t1041 != 0) = false := bne_eq_false_iff_eq.mpr c83
                  clear c83
                  by_cases c84 : t1040 = (wrap64 (2 * (wrap64 (3 + t1007))))
                  · rw [if_pos c84] at H
                    have c84b0 : (t1040 == (wrap64 (2 * (wrap64 (3 + t1007))))) = true := beq_iff_eq.mpr c84
                    have c84b1 : (t1040 != (wrap64 (2 * (wrap64 (3 + t1007))))) = false := bne_eq_false_iff_eq.mpr c84
                    clear c84
                    by_cases c85 : t1043 = 0
                    · rw [if_pos c85] at H
                      have c85b0 : (t1043 == 0) = true := beq_iff_eq.mpr c85
                      have c85b1 : (t1043 != 0) = false := bne_eq_false_iff_eq.mpr c85
                      clear c85
                      by_cases c86 : t1042 = x28_2
                      · rw [if_pos c86] at H
                        have c86b0 : (t1042 == x28_2) = true := beq_iff_eq.mpr c86
                        have c86b1 : (t1042 != x28_2) = false := bne_eq_false_iff_eq.mpr c86
                        clear c86
                        by_cases c87 : t1045 = 0
                        · rw [if_pos c87] at H
                          have c87b0 : (t1045 == 0) = true := beq_iff_eq.mpr c87
                          have c87b1 : (t1045 != 0) = false := bne_eq_false_iff_eq.mpr c87
                          clear c87
                          by_cases c88 : t1044 = true
                          · subst c88
                            have H1 : (if t1047 = 0 then (some (!t1046)) else (some false)) = some r := by rw [if_pos rfl] at H; exact H
                            clear H
                            have H := H1
                            clear H1
                            by_cases c89 : t1047 = 0
                            · rw [if_pos c89] at H
                              have c89b0 : (t1047 == 0) = true := beq_iff_eq.mpr c89
                              have c89b1 : (t1047 != 0) = false := bne_eq_false_iff_eq.mpr c89
                              clear c89
                              obtain rfl := Option.some.inj H
                              go_wp2
                              go_ret
                              exact ⟨by first | rfl | (simp [errW_none, errW_some] <;> rfl) | (simp [*, errW_none, errW_some] <;> rfl), by repeat (first | (with_reducible first | exact HB.out | apply below_alloc | apply pw_below_drewN | apply below_drew1 | refine below_set ?_ GE1011.out | refine below_set ?_ GE1015.out | refine below_set ?_ GE1019.out | refine below_set ?_ GE1023.out) | exact HB.out)⟩
                            · rw [if_neg c89] at H
                              have c89b0 : (t1047 == 0) = false := beq_eq_false_iff_ne.mpr c89
                              have c89b1 : (t1047 != 0) = true := bne_iff_ne.mpr c89
                              obtain rfl := Option.some.inj H
                              go_wp2
                              go_ret
                              exact ⟨by first | rfl | (simp [errW_none, errW_some] <;> rfl) | (simp [*, errW_none, errW_some] <;> rfl), by repeat (first | (with_reducible first | exact HB.out | apply below_alloc | apply pw_below_drewN | apply below_drew1 | refine below_set ?_ GE1011.out | refine below_set ?_ GE1015.out | refine below_set ?_ GE1019.out | refine below_set ?_ GE1023.out) | exact HB.out)⟩
                          · replace c88 := Bool.eq_false_iff.mpr c88
                            subst c88
                            have H1 : (some false) = some r := by rw [if_neg (show ¬ (false = true) by decide)] at H; exact H
                            clear H
                            have H := H1
                            clear H1
                            obtain rfl := Option.some.inj H
                            go_wp2
                            go_ret
                            exact ⟨by first | rfl | (simp [errW_none, errW_some] <;> rfl) | (simp [*, errW_none, errW_some] <;> rfl), by repeat (first | (with_reducible first | exact HB.out | apply below_alloc | apply pw_below_drewN | apply below_drew1 | refine below_set ?_ GE1011.out | refine below_set ?_ GE1015.out | refine below_set ?_ GE1019.out | refine below_set ?_ GE1023.out) | exact HB.out)⟩
                        · rw [if_neg c87] at H
                          have c87b0 : (t1045 == 0) = false := beq_eq_false_iff_ne.mpr c87
                          have c87b1 : (t1045 != 0) = true := bne_iff_ne.mpr c87
                          obtain rfl := Option.some.inj H
                          go_wp2
                          go_ret
                          exact ⟨by first | rfl | (simp [errW_none, errW_some] <;> rfl) | (simp [*, errW_none, errW_some] <;> rfl), by repeat (first | (with_reducible first | exact HB.out | apply below_alloc | apply pw_below_drewN | apply below_drew1 | refine below_set ?_ GE1011.out | refine below_set ?_ GE1015.out | refine below_set ?_ GE1019.out | refine below_set ?_ GE1023.out) | exact HB.out)⟩
                      · rw [if_neg c86] at H
                        have c86b0 : (t1042 == x28_2) = false := beq_eq_false_iff_ne.mpr c86
                        have c86b1 : (t1042 != x28_2) = true := bne_iff_ne.mpr c86
                        obtain rfl := Option.some.inj H
                        go_wp2
                        go_ret
                        exact ⟨by first | rfl | (simp [errW_none, errW_some] <;> rfl) | (simp [*, errW_none, errW_some] <;> rfl), by repeat (first | (with_reducible first | exact HB.out | apply below_alloc | apply pw_below_drewN | apply below_drew1 | refine below_set ?_ GE1011.out | refine below_set ?_ GE1015.out | refine below_set ?_ GE1019.out | refine below_set ?_ GE1023.out) | exact HB.out)⟩
                    · rw [if_neg c85] at H
                      have c85b0 : (t1043 == 0) = false := beq_eq_false_iff_ne.mpr c85
                      have c85b1 : (t1043 != 0) = true := bne_iff_ne.mpr c85
                      obtain rfl := Option.some.inj H
                      go_wp2
                      go_ret
                      exact ⟨by first | rfl | (simp [errW_none, errW_some] <;> rfl) | (simp [*, errW_none, errW_some] <;> rfl), by repeat (first | (with_reducible first | exact HB.out | apply below_alloc | apply pw_below_drewN | apply below_drew1 | refine below_set ?_ GE1011.out | refine below_set ?_ GE1015.out | refine below_set ?_ GE1019.out | refine below_set ?_ GE1023.out) | exact HB.out)⟩
                  · rw [if_neg c84] at H
                    have c84b0 : (t1040 == (wrap64 (2 * (wrap64 (3 + t1007))))) = false := beq_eq_false_iff_ne.mpr c84
                    have c84b1 : (t1040 != (wrap64 (2 * (wrap64 (3 + t1007))))) = true := bne_iff_ne.mpr c84
                    obtain rfl := Option.some.inj H
                    go_wp2
                    go_ret
                    exact ⟨by first | rfl | (simp [errW_none, errW_some] <;> rfl) | (simp [*, errW_none, errW_some] <;> rfl), by repeat (first | (with_reducible first | exact HB.out | apply below_alloc | apply pw_below_drewN | apply below_drew1 | refine below_set ?_ GE1011.out | refine below_set ?_ GE1015.out | refine below_set ?_ GE1019.out | refine below_set ?_ GE1023.out) | exact HB.out)⟩
                · rw [if_neg c83] at H
                  have c83b0 : (t1041 == 0) = false := beq_eq_false_iff_ne.mpr c83
                  have c83b1 : (t1041 != 0) = true := bne_iff_ne.mpr c83
                  obtain rfl := Option.some.inj H
                  go_wp2
                  go_ret
                  exact ⟨by first | rfl | (simp [errW_none, errW_some] <;> rfl) | (simp [*, errW_none, errW_some] <;> rfl), by repeat (first | (with_reducible first | exact HB.out | apply below_alloc | apply pw_below_drewN | apply below_drew1 | refine below_set ?_ GE1011.out | refine below_set ?_ GE1015.out | refine below_set ?_ GE1019.out | refine below_set ?_ GE1023.out) | exact HB.out)⟩

end Go.Proofs.Ytjemkdpffjneaaa.Q
end
