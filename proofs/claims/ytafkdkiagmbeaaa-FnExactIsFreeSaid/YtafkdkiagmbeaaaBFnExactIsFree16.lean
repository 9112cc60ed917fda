/- Contracts of Go functions and plain lemmas over what they compute; printed by the kit's print program or written by hand, joined. -/
import Derived.Test.YtafkdkiagmbeaaaBFnExactIsFree4
import Derived.Test.YtafkdkiagmbeaaaBFnExactIsFree10
import Derived.Test.YtafkdkiagmbeaaaBFnExactIsFree14
import Derived.Test.YtafkdkiagmbeaaaBFnExactIsFree15
import Derived.Test.YtafkdkiagmbeaaaBFnExactIsFree11
import Derived.Test.YtafkdkiagmbeaaaBFnExactIsFree12
import Derived.Test.YtafkdkiagmbeaaaBFnExactIsFree7
import Derived.Test.YtafkdkiagmbeaaaBFnExactIsFree8
import Derived.Test.YtafkdkiagmbeaaaBFnExactIsFree5
import Derived.Test.YtafkdkiagmbeaaaBFnExactIsFree13
section
namespace Go.Proofs.Ytafkdkiagmbeaaa.Q
open Go.RowKit Go.Proofs.YtafkdkiagmbeaaaW.PrintWords Go.Proofs.YtafkdkiagmbeaaaW.PrintLast Go.Proofs.YtafkdkiagmbeaaaW.PrintMore
attribute [local go_sem] max2_int min2_int max_two min_two max_three min_three max_four min_four   -- for this text's walks alone
set_option linter.unusedVariables false
set_option linter.unusedSimpArgs false

def laws_FnExactIsFree.j0 : Nat → List (S45) → List (S46) → Bool → Option (Bool)
  | 0, _, _, _ => none
  | k + 1, x1, x8, x40 => if x40 = true then (some false) else ((laws_toGraphS.f k x1).bind fun t568 => ((laws_eqGraphS.f k x8 t568).bind fun t571 => (if t571 = true then (some true) else (some false))))
def laws_FnExactIsFree.f (k : Nat) (a0_0 : Int) (a0_1 : Int) (l1 : List (S45)) : Option (Bool) := (laws_szGraphS.f l1 1048576).bind fun t553 => (if t553 < 0 then (some true) else ((laws_toGraph.f a0_0 a0_1).bind fun bt554 => ((laws_toGraphS.f k l1).bind fun t556 => ((spec_IsFree.f k bt554.1 bt554.2 t556).bind fun bt559 => ((laws_toGraphS.f k l1).bind fun t561 => ((laws_toGraph.f a0_0 a0_1).bind fun bt564 => ((impl_IsFree.f k bt564.1 bt564.2 t561).bind fun bt566 => (if (bt566.1 != bt559.1) = true then (laws_FnExactIsFree.j0 k l1 t561 true) else (laws_FnExactIsFree.j0 k l1 t561 (bt566.2 != bt559.2))))))))))
set_option maxHeartbeats 8000000 in
set_option maxRecDepth 100000 in
theorem laws_FnExactIsFree.calls (k : Nat) (a0_0 : Int) (a0_1 : Int) (A1 : Option Addr) (c1 : Nat) (l1 : List (S45)) (r : Bool) (w : World) (hr1 : Kd.C k45 w A1 l1.length l1) (hc1 : l1.length ≤ c1) (h : laws_FnExactIsFree.f k a0_0 a0_1 l1 = some r) :
    Calls Try.prog 8 #[.agg #[.int .i64 a0_0, .int .u32 a0_1], .slice A1 l1.length c1] w fun e w' => e = .returned (.bool r) ∧ Below w.heap.size w w' := by
  have hu45 := Try.underlying45
  have HR1 := Aside0.mk hr1
  have HC1 := Aside0.mk hc1
  clear hr1 hc1
  have HB := Aside0.mk (Below.refl w.heap.size w)
  have H : ((laws_szGraphS.f l1 1048576).bind fun t553 => (if t553 < 0 then (some true) else ((laws_toGraph.f a0_0 a0_1).bind fun bt554 => ((laws_toGraphS.f k l1).bind fun t556 => ((spec_IsFree.f k bt554.1 bt554.2 t556).bind fun bt559 => ((laws_toGraphS.f k l1).bind fun t561 => ((laws_toGraph.f a0_0 a0_1).bind fun bt564 => ((impl_IsFree.f k bt564.1 bt564.2 t561).bind fun bt566 => (if (bt566.1 != bt559.1) = true then (laws_FnExactIsFree.j0 k l1 t561 true) else (laws_FnExactIsFree.j0 k l1 t561 (bt566.2 != bt559.2))))))))))) = some r := h
  clear h
  replace H := Option.bind_eq_some_iff.mp H
  obtain ⟨t553, A30, H⟩ := H
  replace H : (if t553 < 0 then (some true) else ((laws_toGraph.f a0_0 a0_1).bind fun bt554 => ((laws_toGraphS.f k l1).bind fun t556 => ((spec_IsFree.f k bt554.1 bt554.2 t556).bind fun bt559 => ((laws_toGraphS.f k l1).bind fun t561 => ((laws_toGraph.f a0_0 a0_1).bind fun bt564 => ((impl_IsFree.f k bt564.1 bt564.2 t561).bind fun bt566 => (if (bt566.1 != bt559.1) = true then (laws_FnExactIsFree.j0 k l1 t561 true) else (laws_FnExactIsFree.j0 k l1 t561 (bt566.2 != bt559.2)))))))))) = some r := H
  have A3 := Aside0.mk A30
  clear A30
  by_cases c4 : t553 < 0
  · rw [if_pos c4] at H
    have c4b0 : decide (t553 < 0) = true := decide_eq_true c4
    clear c4
    obtain rfl := Option.some.inj H
    go_enter Try.func8, Try.ntmps8
    go_wp2_with (first | ((with_reducible refine gate_dst (N := 2) rfl ?_); refine box_event ?hg (N := 2) ?hd (cs := #[.int .i64 a0_0, .int .u32 a0_1]) (t := 45) ?hr ?_; (case hd => rfl); (case hg => rfl); (case hr => first | (go_simp; done) | (go_simp; rfl)); intro gb552 hg w5 hbox hb; have n0_ := Aside0.mk (below_step (by repeat (first | (with_reducible first | exact HB.out | apply below_alloc | apply pw_below_drewN | apply below_drew1) | exact HB.out)) hb); have n1_ := Aside0.mk (hbox); have n2_ := Aside0.mk ((by rw [hg]; exact (below_size (by repeat (first | (with_reducible first | exact HB.out | apply below_alloc | apply pw_below_drewN | apply below_drew1) | exact HB.out))) : w.heap.size ≤ gb552)); have n3_ := Aside0.mk ((by rw [hg]; exact (below_size (by repeat (first | (with_reducible first | exact HB.out | apply below_alloc | apply pw_below_drewN | apply below_drew1) | exact HB.out))) : w.heap.size ≤ gb552)); clear HB; have HB := n0_; have BK552 := n1_; have GW552 := n2_; have GE552 := n3_; clear n0_ n1_ n2_ n3_; clear hb hbox hg) | ((with_reducible refine gate_callee (f := 39) rfl ?_); refine goesL_ (some 13) rfl rfl Try.func39 (by kernel_rfl) rfl #[.slice A1 l1.length c1, .int .i64 1048576] rfl (by (try simp only [List.map_toArray, List.map_cons, List.map_nil]); first | done | rfl | (simp only [List.length_drop, List.length_take]; rfl)) ?_; (with_reducible refine (laws_szGraphS.calls _ _ l1 1048576 t553 _ ?side1 ?side2 A3.out).mono ?_); (case side1 => repeat (first | exact (Kd.C_below HR1.out HB.out) | (with_reducible refine Kd.C_alloc ?_ _) | (with_reducible refine Kd.C_drewN ?_ _) | (with_reducible refine Kd.C_drew ?_))); (case side2 => exact HC1.out); rintro e w' ⟨rfl, ⟨nd, rfl⟩⟩; refine ⟨_, rfl, ?_⟩))
    go_ret
    exact ⟨by first | rfl | (simp [errW_none, errW_some] <;> rfl) | (simp [*, errW_none, errW_some] <;> rfl), by repeat (first | (with_reducible first | exact HB.out | apply below_alloc | apply pw_below_drewN | apply below_drew1 | refine below_set ?_ GE552.out) | exact HB.out)⟩
  · rw [if_neg c4] at H
    have c4b0 : decide (t553 < 0) = false := decide_eq_false c4
    clear c4
    replace H := Option.bind_eq_some_iff.mp H
    obtain ⟨⟨t554, t555⟩, A60, H⟩ := H
    replace H : ((laws_toGraphS.f k l1).bind fun t556 => ((spec_IsFree.f k t554 t555 t556).bind fun bt559 => ((laws_toGraphS.f k l1).bind fun t561 => ((laws_toGraph.f a0_0 a0_1).bind fun bt564 => ((impl_IsFree.f k bt564.1 bt564.2 t561).bind fun bt566 => (if (bt566.1 != bt559.1) = true then (laws_FnExactIsFree.j0 k l1 t561 true) else (laws_FnExactIsFree.j0 k l1 t561 (bt566.2 != bt559.2)))))))) = some r := H
    have A6 := Aside0.mk A60
    clear A60
    replace H := Option.bind_eq_some_iff.mp H
    obtain ⟨t556, A70, H⟩ := H
    replace H : ((spec_IsFree.f k t554 t555 t556).bind fun bt559 => ((laws_toGraphS.f k l1).bind fun t561 => ((laws_toGraph.f a0_0 a0_1).bind fun bt564 => ((impl_IsFree.f k bt564.1 bt564.2 t561).bind fun bt566 => (if (bt566.1 != bt559.1) = true then (laws_FnExactIsFree.j0 k l1 t561 true) else (laws_FnExactIsFree.j0 k l1 t561 (bt566.2 != bt559.2))))))) = some r := H
    have A7 := Aside0.mk A70
    clear A70
    replace H := Option.bind_eq_some_iff.mp H
    obtain ⟨⟨t559, t560⟩, A80, H⟩ := H
    replace H : ((laws_toGraphS.f k l1).bind fun t561 => ((laws_toGraph.f a0_0 a0_1).bind fun bt564 => ((impl_IsFree.f k bt564.1 bt564.2 t561).bind fun bt566 => (if (bt566.1 != t559) = true then (laws_FnExactIsFree.j0 k l1 t561 true) else (laws_FnExactIsFree.j0 k l1 t561 (bt566.2 != t560)))))) = some r := H
    have A8 := Aside0.mk A80
    clear A80
    replace H := Option.bind_eq_some_iff.mp H
    obtain ⟨t561, A90, H⟩ := H
    replace H : ((laws_toGraph.f a0_0 a0_1).bind fun bt564 => ((impl_IsFree.f k bt564.1 bt564.2 t561).bind fun bt566 => (if (bt566.1 != t559) = true then (laws_FnExactIsFree.j0 k l1 t561 true) else (laws_FnExactIsFree.j0 k l1 t561 (bt566.2 != t560))))) = some r := H
    have A9 := Aside0.mk A90
    clear A90
    replace H := Option.bind_eq_some_iff.mp H
    obtain ⟨⟨t564, t565⟩, A100, H⟩ := H
    replace H : ((impl_IsFree.f k t564 t565 t561).bind fun bt566 => (if (bt566.1 != t559) = true then (laws_FnExactIsFree.j0 k l1 t561 true) else (laws_FnExactIsFree.j0 k l1 t561 (bt566.2 != t560)))) = some r := H
    have A10 := Aside0.mk A100
    clear A100
    replace H := Option.bind_eq_some_iff.mp H
    obtain ⟨⟨t566, t567⟩, A110, H⟩ := H
    replace H : (if (t566 != t559) = true then (laws_FnExactIsFree.j0 k l1 t561 true) else (laws_FnExactIsFree.j0 k l1 t561 (t567 != t560))) = some r := H
    have A11 := Aside0.mk A110
    clear A110
    have HC12 := Aside0.mk H
    clear H
    go_enter Try.func8, Try.ntmps8
    go_upto_region 8 with (first | ((with_reducible refine gate_dst (N := 2) rfl ?_); refine box_event ?hg (N := 2) ?hd (cs := #[.int .i64 a0_0, .int .u32 a0_1]) (t := 45) ?hr ?_; (case hd => rfl); (case hg => rfl); (case hr => first | (go_simp; done) | (go_simp; rfl)); intro gb552 hg w13 hbox hb; have n0_ := Aside0.mk (below_step (by repeat (first | (with_reducible first | exact HB.out | apply below_alloc | apply pw_below_drewN | apply below_drew1) | exact HB.out)) hb); have n1_ := Aside0.mk (hbox); have n2_ := Aside0.mk ((by rw [hg]; exact (below_size (by repeat (first | (with_reducible first | exact HB.out | apply below_alloc | apply pw_below_drewN | apply below_drew1) | exact HB.out))) : w.heap.size ≤ gb552)); have n3_ := Aside0.mk ((by rw [hg]; exact (below_size (by repeat (first | (with_reducible first | exact HB.out | apply below_alloc | apply pw_below_drewN | apply below_drew1) | exact HB.out))) : w.heap.size ≤ gb552)); clear HB; have HB := n0_; have BK552 := n1_; have GW552 := n2_; have GE552 := n3_; clear n0_ n1_ n2_ n3_; clear hb hbox hg) | ((with_reducible refine gate_callee (f := 39) rfl ?_); refine goesL_ (some 13) rfl rfl Try.func39 (by kernel_rfl) rfl #[.slice A1 l1.length c1, .int .i64 1048576] rfl (by (try simp only [List.map_toArray, List.map_cons, List.map_nil]); first | done | rfl | (simp only [List.length_drop, List.length_take]; rfl)) ?_; (with_reducible refine (laws_szGraphS.calls _ _ l1 1048576 t553 _ ?side1 ?side2 A3.out).mono ?_); (case side1 => repeat (first | exact (Kd.C_below HR1.out HB.out) | (with_reducible refine Kd.C_alloc ?_ _) | (with_reducible refine Kd.C_drewN ?_ _) | (with_reducible refine Kd.C_drew ?_))); (case side2 => exact HC1.out); rintro e w' ⟨rfl, ⟨nd, rfl⟩⟩; refine ⟨_, rfl, ?_⟩; have hcz14_0 : w13.cell? ⟨gb552, 0, none⟩ = some (.int .i64 a0_0) := (blk_cell BK552.out 0).trans rfl; have hcz14_1 : w13.cell? ⟨gb552, 1, none⟩ = some (.int .u32 a0_1) := (blk_cell BK552.out 1).trans rfl; have hfz14_0 := blk_frozen BK552.out 0; have hfz14_1 := blk_frozen BK552.out 1) | ((with_reducible refine gate_callee (f := 30) rfl ?_); refine goesL_ (some 18) rfl rfl Try.func30 (by kernel_rfl) rfl #[.agg #[.int .i64 a0_0, .int .u32 a0_1]] rfl (by (try simp only [List.map_toArray, List.map_cons, List.map_nil]); first | done | rfl | (simp only [List.length_drop, List.length_take]; rfl)) ?_; (with_reducible refine (laws_toGraph.calls a0_0 a0_1 t554 t555 _ A6.out).mono ?_); rintro e w15 ⟨rfl, hb⟩; refine ⟨_, rfl, ?_⟩; have n0_ := Aside0.mk (blk_below (g := gb552) (o := .cells #[.int .i64 a0_0, .int .u32 a0_1] 45 (0, 0)) (by (with_reducible repeat (first | refine blk_drewN ?_ _ | refine blk_drew ?_ | refine blk_alloc ?_ _)); exact BK552.out) hb); have n1_ := Aside0.mk (below_step (by repeat (first | (with_reducible first | exact HB.out | apply below_alloc | apply pw_below_drewN | apply below_drew1 | refine below_set ?_ GE552.out) | exact HB.out)) hb); clear BK552; clear HB; have BK552 := n0_; have HB := n1_; clear n0_ n1_; (try clear hb); (try clear hb2); (try clear hk); (try clear hi)) | ((with_reducible refine gate_callee (f := 41) rfl ?_); refine goesL_ (some 20) rfl rfl Try.func41 (by kernel_rfl) rfl #[.slice A1 l1.length c1] rfl (by (try simp only [List.map_toArray, List.map_cons, List.map_nil]); first | done | rfl | (simp only [List.length_drop, List.length_take]; rfl)) ?_; (with_reducible refine (laws_toGraphS.calls k _ _ l1 t556 _ ?side1 ?side2 A7.out).mono ?_); (case side1 => repeat (first | exact (Kd.C_below HR1.out HB.out) | (with_reducible refine Kd.C_alloc ?_ _) | (with_reducible refine Kd.C_drewN ?_ _) | (with_reducible refine Kd.C_drew ?_))); (case side2 => exact HC1.out); rintro e w16 ⟨v557, rfl, ho0, hb⟩; refine ⟨_, rfl, ?_⟩; have n0_ := Aside0.mk (Kd.R_lower ho0 (below_size (by repeat (first | (with_reducible first | exact HB.out | apply below_alloc | apply pw_below_drewN | apply below_drew1 | refine below_set ?_ GE552.out) | exact HB.out)))); have n1_ := Aside0.mk (blk_below (g := gb552) (o := .cells #[.int .i64 a0_0, .int .u32 a0_1] 45 (0, 0)) (by (with_reducible repeat (first | refine blk_drewN ?_ _ | refine blk_drew ?_ | refine blk_alloc ?_ _)); exact BK552.out) hb); have n2_ := Aside0.mk (below_step (by repeat (first | (with_reducible first | exact HB.out | apply below_alloc | apply pw_below_drewN | apply below_drew1 | refine below_set ?_ GE552.out) | exact HB.out)) hb); clear BK552; clear HB; have HO558 := n0_; have BK552 := n1_; have HB := n2_; clear n0_ n1_ n2_; (try clear hb); (try clear hb2); (try clear hk); (try clear hi); (try clear ho0); obtain ⟨Ao17, co17, eo17⟩ := Kd.R_slice HO558.out; subst eo17) | ((with_reducible refine gate_callee (f := 40) rfl ?_); refine goesL_ (some 21) rfl rfl Try.func40 (by kernel_rfl) rfl #[.agg #[.int .i64 t554, .int .u32 t555], .slice Ao17 t556.length co17] rfl (by (try simp only [List.map_toArray, List.map_cons, List.map_nil]); first | done | rfl | (simp only [List.length_drop, List.length_take]; rfl)) ?_; (with_reducible refine (spec_IsFree.calls k t554 t555 _ _ t556 t559 t560 _ ?side1 ?side2 A8.out).mono ?_); (case side1 => repeat (first | exact (Kd.R_reads' HO558.out).2.2 | (with_reducible refine Kd.C_alloc ?_ _) | (with_reducible refine Kd.C_drewN ?_ _) | (with_reducible refine Kd.C_drew ?_))); (case side2 => exact (Kd.R_reads' HO558.out).2.1); rintro e w18 ⟨rfl, hb⟩; refine ⟨_, rfl, ?_⟩; have n0_ := Aside0.mk (Kd.R_below (by (with_reducible repeat (first | apply Kd.R_alloc | apply Kd.R_drewN | apply Kd.R_drew)); exact HO558.out) hb); have n1_ := Aside0.mk (blk_below (g := gb552) (o := .cells #[.int .i64 a0_0, .int .u32 a0_1] 45 (0, 0)) (by (with_reducible repeat (first | refine blk_drewN ?_ _ | refine blk_drew ?_ | refine blk_alloc ?_ _)); exact BK552.out) hb); have n2_ := Aside0.mk (below_step (by repeat (first | (with_reducible first | exact HB.out | apply below_alloc | apply pw_below_drewN | apply below_drew1 | refine below_set ?_ GE552.out) | exact HB.out)) hb); clear HO558; clear BK552; clear HB; have HO558 := n0_; have BK552 := n1_; have HB := n2_; clear n0_ n1_ n2_; (try clear hb); (try clear hb2); (try clear hk); (try clear hi)) | ((with_reducible refine gate_callee (f := 41) rfl ?_); refine goesL_ (some 25) rfl rfl Try.func41 (by kernel_rfl) rfl #[.slice A1 l1.length c1] rfl (by (try simp only [List.map_toArray, List.map_cons, List.map_nil]); first | done | rfl | (simp only [List.length_drop, List.length_take]; rfl)) ?_; (with_reducible refine (laws_toGraphS.calls k _ _ l1 t561 _ ?side1 ?side2 A9.out).mono ?_); (case side1 => repeat (first | exact (Kd.C_below HR1.out HB.out) | (with_reducible refine Kd.C_alloc ?_ _) | (with_reducible refine Kd.C_drewN ?_ _) | (with_reducible refine Kd.C_drew ?_))); (case side2 => exact HC1.out); rintro e w19 ⟨v562, rfl, ho0, hb⟩; refine ⟨_, rfl, ?_⟩; have n0_ := Aside0.mk (Kd.R_elder' (by (with_reducible repeat (first | apply Kd.R_alloc | apply Kd.R_drewN | apply Kd.R_drew)); exact HO558.out) (Kd.R_base ho0) hb); have n1_ := Aside0.mk (Kd.R_lower (Kd.R_new' ho0 (Kd.R_lt (by (with_reducible repeat (first | apply Kd.R_alloc | apply Kd.R_drewN | apply Kd.R_drew)); exact HO558.out))) (below_size (by repeat (first | (with_reducible first | exact HB.out | apply below_alloc | apply pw_below_drewN | apply below_drew1 | refine below_set ?_ GE552.out) | exact HB.out)))); have n2_ := Aside0.mk (blk_below (g := gb552) (o := .cells #[.int .i64 a0_0, .int .u32 a0_1] 45 (0, 0)) (by (with_reducible repeat (first | refine blk_drewN ?_ _ | refine blk_drew ?_ | refine blk_alloc ?_ _)); exact BK552.out) hb); have n3_ := Aside0.mk (below_step (by repeat (first | (with_reducible first | exact HB.out | apply below_alloc | apply pw_below_drewN | apply below_drew1 | refine below_set ?_ GE552.out) | exact HB.out)) hb); clear HO558; clear BK552; clear HB; have HO558 := n0_; have HO563 := n1_; have BK552 := n2_; have HB := n3_; clear n0_ n1_ n2_ n3_; (try clear hb); (try clear hb2); (try clear hk); (try clear hi); (try clear ho0); have hcz20_0 : w19.cell? ⟨gb552, 0, none⟩ = some (.int .i64 a0_0) := (blk_cell BK552.out 0).trans rfl; have hcz20_1 : w19.cell? ⟨gb552, 1, none⟩ = some (.int .u32 a0_1) := (blk_cell BK552.out 1).trans rfl; have hfz20_0 := blk_frozen BK552.out 0; have hfz20_1 := blk_frozen BK552.out 1) | ((with_reducible refine gate_callee (f := 30) rfl ?_); refine goesL_ (some 28) rfl rfl Try.func30 (by kernel_rfl) rfl #[.agg #[.int .i64 a0_0, .int .u32 a0_1]] rfl (by (try simp only [List.map_toArray, List.map_cons, List.map_nil]); first | done | rfl | (simp only [List.length_drop, List.length_take]; rfl)) ?_; (with_reducible refine (laws_toGraph.calls a0_0 a0_1 t564 t565 _ A10.out).mono ?_); rintro e w21 ⟨rfl, hb⟩; refine ⟨_, rfl, ?_⟩; have n0_ := Aside0.mk (Kd.R_below (by (with_reducible repeat (first | apply Kd.R_alloc | apply Kd.R_drewN | apply Kd.R_drew)); exact HO558.out) hb); have n1_ := Aside0.mk (Kd.R_below (by (with_reducible repeat (first | apply Kd.R_alloc | apply Kd.R_drewN | apply Kd.R_drew)); exact HO563.out) hb); have n2_ := Aside0.mk (blk_below (g := gb552) (o := .cells #[.int .i64 a0_0, .int .u32 a0_1] 45 (0, 0)) (by (with_reducible repeat (first | refine blk_drewN ?_ _ | refine blk_drew ?_ | refine blk_alloc ?_ _)); exact BK552.out) hb); have n3_ := Aside0.mk (below_step (by repeat (first | (with_reducible first | exact HB.out | apply below_alloc | apply pw_below_drewN | apply below_drew1 | refine below_set ?_ GE552.out) | exact HB.out)) hb); clear HO558; clear HO563; clear BK552; clear HB; have HO558 := n0_; have HO563 := n1_; have BK552 := n2_; have HB := n3_; clear n0_ n1_ n2_ n3_; (try clear hb); (try clear hb2); (try clear hk); (try clear hi); obtain ⟨Ao22, co22, eo22⟩ := Kd.R_slice HO563.out; subst eo22) | ((with_reducible refine gate_callee (f := 42) rfl ?_); refine goesL_ (some 30) rfl rfl Try.func42 (by kernel_rfl) rfl #[.agg #[.int .i64 t564, .int .u32 t565], .slice Ao22 t561.length co22] rfl (by (try simp only [List.map_toArray, List.map_cons, List.map_nil]); first | done | rfl | (simp only [List.length_drop, List.length_take]; rfl)) ?_; (with_reducible refine (impl_IsFree.calls k t564 t565 _ _ t561 t566 t567 _ ?side1 ?side2 A11.out).mono ?_); (case side1 => repeat (first | exact (Kd.R_reads' HO563.out).2.2 | (with_reducible refine Kd.C_alloc ?_ _) | (with_reducible refine Kd.C_drewN ?_ _) | (with_reducible refine Kd.C_drew ?_))); (case side2 => exact (Kd.R_reads' HO563.out).2.1); rintro e w23 ⟨rfl, hb⟩; refine ⟨_, rfl, ?_⟩; have n0_ := Aside0.mk (Kd.R_below (by (with_reducible repeat (first | apply Kd.R_alloc | apply Kd.R_drewN | apply Kd.R_drew)); exact HO558.out) hb); have n1_ := Aside0.mk (Kd.R_below (by (with_reducible repeat (first | apply Kd.R_alloc | apply Kd.R_drewN | apply Kd.R_drew)); exact HO563.out) hb); have n2_ := Aside0.mk (blk_below (g := gb552) (o := .cells #[.int .i64 a0_0, .int .u32 a0_1] 45 (0, 0)) (by (with_reducible repeat (first | refine blk_drewN ?_ _ | refine blk_drew ?_ | refine blk_alloc ?_ _)); exact BK552.out) hb); have n3_ := Aside0.mk (below_step (by repeat (first | (with_reducible first | exact HB.out | apply below_alloc | apply pw_below_drewN | apply below_drew1 | refine below_set ?_ GE552.out) | exact HB.out)) hb); clear HO558; clear HO563; clear BK552; clear HB; have HO558 := n0_; have HO563 := n1_; have BK552 := n2_; have HB := n3_; clear n0_ n1_ n2_ n3_; (try clear hb); (try clear hb2); (try clear hk); (try clear hi)))
    (try simp only [Act.put, List.setIfInBounds_toArray, List.set_cons_zero, List.set_cons_succ])
    go_cut [40] (fun v40 wc => ∃ (kq : Nat) (x40_11 : Bool), v40 = .bool x40_11 ∧ Aside0 (laws_FnExactIsFree.j0 kq l1 t561 x40_11 = some r) ∧ Aside0 (kq ≤ k) ∧ Aside0 (Kd.R k46 46 wc w.heap.size (fun _ => True) (.slice Ao22 t561.length co22) t561) ∧ Aside0 (wc.heap[gb552]? = some (.cells #[.int .i64 a0_0, .int .u32 a0_1] 45 (0, 0))) ∧ Aside0 (Below w.heap.size w wc))
    case first =>
      have H := HC12.out
      clear HC12
      by_cases c24 : (t566 != t559) = true
      · rw [if_pos c24] at H
        have c24b0 : (t566 != t559) = true := c24
        (try (have c24b1 : decide (t566 = t559) = false := by simpa using c24))
        (try (have c24b2 : (t566 == t559) = false := by simpa using c24))
        (try (have c24b3 : ¬ (t566 = t559) := by simpa using c24))
        clear c24
        (first | rw [c24b0] | (simp only [i64_w, i32_w]; rw [c24b0]) | skip)
        have H' := Aside0.mk H
        clear H
        go_wp2
        go_meet
        case rel => exact ⟨_, (true), (by first | rfl | (simp; done) | (simp [*]; done)), H', ⟨by first | omega | exact Nat.le_refl _⟩, ⟨by (with_reducible repeat (first | apply Kd.R_alloc | apply Kd.R_drewN | apply Kd.R_drew)); exact Kd.R_mono HO563.out (fun _ hk => trivial)⟩, ⟨by (with_reducible repeat (first | refine blk_drewN ?_ _ | refine blk_drew ?_ | refine blk_alloc ?_ _)); exact BK552.out⟩, ⟨by repeat (first | (with_reducible first | exact HB.out | apply below_alloc | apply pw_below_drewN | apply below_drew1 | refine below_set ?_ GE552.out) | exact HB.out)⟩⟩
      · rw [if_neg c24] at H
        have c24b0 : (t566 != t559) = false := by simpa using c24
        (try (have c24b1 : decide (t566 = t559) = true := by simpa using c24))
        (try (have c24b2 : (t566 == t559) = true := by simpa using c24))
        clear c24
        (first | rw [c24b0] | (simp only [i64_w, i32_w]; rw [c24b0]) | skip)
        have H' := Aside0.mk H
        clear H
        go_wp2
        go_meet
        case rel => exact ⟨_, ((t567 != t560)), (by first | rfl | (simp; done) | (simp [*]; done)), H', ⟨by first | omega | exact Nat.le_refl _⟩, ⟨by (with_reducible repeat (first | apply Kd.R_alloc | apply Kd.R_drewN | apply Kd.R_drew)); exact Kd.R_mono HO563.out (fun _ hk => trivial)⟩, ⟨by (with_reducible repeat (first | refine blk_drewN ?_ _ | refine blk_drew ?_ | refine blk_alloc ?_ _)); exact BK552.out⟩, ⟨by repeat (first | (with_reducible first | exact HB.out | apply below_alloc | apply pw_below_drewN | apply below_drew1 | refine below_set ?_ GE552.out) | exact HB.out)⟩⟩
    case rest =>
      clear HC12
      try clear c1
      try clear c2
      try clear p2
      try clear c3
      try clear c4
      try clear c4b0
      try clear c8
      try clear c24
      try clear c24b0
      try clear c24b1
      try clear c24b2
      try clear hcz14_0
      try clear hcz14_1
      try clear hcz20_0
      try clear hcz20_1
      try clear hfz14_0
      try clear hfz14_1
      try clear hfz20_0
      try clear hfz20_1
      obtain ⟨kq, x40_11, rfl, HA, HJ11, HO_8, BK552, HB⟩ := hcut
      cases kq with
      | zero => exact absurd HA.out (by simp [laws_FnExactIsFree.j0])
      | succ kj11 =>
        have H := HA.out
        clear HA
        simp only [laws_FnExactIsFree.j0] at H
        by_cases c25 : x40_11 = true
        · subst c25
          have H1 : (some false) = some r := by rw [if_pos rfl] at H; exact H
          clear H
          have H := H1
          clear H1
          obtain rfl := Option.some.inj H
          go_wp2
          go_ret
          exact ⟨by first | rfl | (simp [errW_none, errW_some] <;> rfl) | (simp [*, errW_none, errW_some] <;> rfl), by repeat (first | (with_reducible first | exact HB.out | apply below_alloc | apply pw_below_drewN | apply below_drew1 | refine below_set ?_ GE552.out) | exact HB.out)⟩
        · replace c25 := Bool.eq_false_iff.mpr c25
          subst c25
          have H1 : ((laws_toGraphS.f kj11 l1).bind fun t568 => ((laws_eqGraphS.f kj11 t561 t568).bind fun t571 => (if t571 = true then (some true) else (some false)))) = some r := by rw [if_neg (show ¬ (false = true) by decide)] at H; exact H
          clear H
          have H := H1
          clear H1
          replace H := Option.bind_eq_some_iff.mp H
          obtain ⟨t568, A260, H⟩ := H
          replace H : ((laws_eqGraphS.f kj11 t561 t568).bind fun t571 => (if t571 = true then (some true) else (some false))) = some r := H
          have A26 := Aside0.mk A260
          clear A260
          replace H := Option.bind_eq_some_iff.mp H
          obtain ⟨t571, A270, H⟩ := H
          replace H : (if t571 = true then (some true) else (some false)) = some r := H
          have A27 := Aside0.mk A270
          clear A270
          by_cases c28 : t571 = true
          · subst c28
            have H1 : (some true) = some r := by rw [if_pos rfl] at H; exact H
            clear H
            have H := H1
            clear H1
            obtain rfl := Option.some.inj H
            go_wp2_with (first | ((with_reducible refine gate_callee (f := 41) rfl ?_); refine goesL_ (some 43) rfl rfl Try.func41 (by kernel_rfl) rfl #[.slice A1 l1.length c1] rfl (by (try simp only [List.map_toArray, List.map_cons, List.map_nil]); first | done | rfl | (simp only [List.length_drop, List.length_take]; rfl)) ?_; (with_reducible refine (laws_toGraphS.calls kj11 _ _ l1 t568 _ ?side1 ?side2 A26.out).mono ?_); (case side1 => repeat (first | exact (Kd.C_below HR1.out HB.out) | (with_reducible refine Kd.C_alloc ?_ _) | (with_reducible refine Kd.C_drewN ?_ _) | (with_reducible refine Kd.C_drew ?_))); (case side2 => exact HC1.out); rintro e w29 ⟨v569, rfl, ho0, hb⟩; refine ⟨_, rfl, ?_⟩; have n0_ := Aside0.mk (Kd.R_elder' (by (with_reducible repeat (first | apply Kd.R_alloc | apply Kd.R_drewN | apply Kd.R_drew)); exact HO_8.out) (Kd.R_base ho0) hb); have n1_ := Aside0.mk (Kd.R_lower (Kd.R_new' ho0 (Kd.R_lt (by (with_reducible repeat (first | apply Kd.R_alloc | apply Kd.R_drewN | apply Kd.R_drew)); exact HO_8.out))) (below_size (by repeat (first | (with_reducible first | exact HB.out | apply below_alloc | apply pw_below_drewN | apply below_drew1 | refine below_set ?_ GE552.out) | exact HB.out)))); have n2_ := Aside0.mk (blk_below (g := gb552) (o := .cells #[.int .i64 a0_0, .int .u32 a0_1] 45 (0, 0)) (by (with_reducible repeat (first | refine blk_drewN ?_ _ | refine blk_drew ?_ | refine blk_alloc ?_ _)); exact BK552.out) hb); have n3_ := Aside0.mk (below_step (by repeat (first | (with_reducible first | exact HB.out | apply below_alloc | apply pw_below_drewN | apply below_drew1 | refine below_set ?_ GE552.out) | exact HB.out)) hb); clear HO_8; clear BK552; clear HB; have HO_8 := n0_; have HO570 := n1_; have BK552 := n2_; have HB := n3_; clear n0_ n1_ n2_ n3_; (try clear hb); (try clear hb2); (try clear hk); (try clear hi); (try clear ho0); obtain ⟨Ao30, co30, eo30⟩ := Kd.R_slice HO570.out; subst eo30) | ((with_reducible refine gate_callee (f := 43) rfl ?_); refine goesL_ (some 44) rfl rfl Try.func43 (by kernel_rfl) rfl #[.slice Ao22 t561.length co22, .slice Ao30 t568.length co30] rfl (by (try simp only [List.map_toArray, List.map_cons, List.map_nil]); first | done | rfl | (simp only [List.length_drop, List.length_take]; rfl)) ?_; (with_reducible refine (laws_eqGraphS.calls kj11 _ _ t561 _ _ t568 true _ ?side1 ?side2 ?side3 ?side4 A27.out).mono ?_); (case side1 => repeat (first | exact (Kd.R_reads' HO_8.out).2.2 | (with_reducible refine Kd.C_alloc ?_ _) | (with_reducible refine Kd.C_drewN ?_ _) | (with_reducible refine Kd.C_drew ?_))); (case side2 => exact (Kd.R_reads' HO_8.out).2.1); (case side3 => repeat (first | exact (Kd.R_reads' HO570.out).2.2 | (with_reducible refine Kd.C_alloc ?_ _) | (with_reducible refine Kd.C_drewN ?_ _) | (with_reducible refine Kd.C_drew ?_))); (case side4 => exact (Kd.R_reads' HO570.out).2.1); rintro e w31 ⟨rfl, hb⟩; refine ⟨_, rfl, ?_⟩; have n0_ := Aside0.mk (Kd.R_below (by (with_reducible repeat (first | apply Kd.R_alloc | apply Kd.R_drewN | apply Kd.R_drew)); exact HO_8.out) hb); have n1_ := Aside0.mk (Kd.R_below (by (with_reducible repeat (first | apply Kd.R_alloc | apply Kd.R_drewN | apply Kd.R_drew)); exact HO570.out) hb); have n2_ := Aside0.mk (blk_below (g := gb552) (o := .cells #[.int .i64 a0_0, .int .u32 a0_1] 45 (0, 0)) (by (with_reducible repeat (first | refine blk_drewN ?_ _ | refine blk_drew ?_ | refine blk_alloc ?_ _)); exact BK552.out) hb); have n3_ := Aside0.mk (below_step (by repeat (first | (with_reducible first | exact HB.out | apply below_alloc | apply pw_below_drewN | apply below_drew1 | refine below_set ?_ GE552.out) | exact HB.out)) hb); clear HO_8; clear HO570; clear BK552; clear HB; have HO_8 := n0_; have HO570 := n1_; have BK552 := n2_; have HB := n3_; clear n0_ n1_ n2_ n3_; (try clear hb); (try clear hb2); (try clear hk); (try clear hi)))
            go_ret
            exact ⟨by first | rfl | (simp [errW_none, errW_some] <;> rfl) | (simp [*, errW_none, errW_some] <;> rfl), by repeat (first | (with_reducible first | exact HB.out | apply below_alloc | apply pw_below_drewN | apply below_drew1 | refine below_set ?_ GE552.out) | exact HB.out)⟩
          · replace c28 := Bool.eq_false_iff.mpr c28
            subst c28
            have H1 : (some false) = some r := by rw [if_neg (show ¬ (false = true) by decide)] at H; exact H
            clear H
            have H := H1
            clear H1
            obtain rfl := Option.some.inj H
            go_wp2_with (first | ((with_reducible refine gate_callee (f := 41) rfl ?_); refine goesL_ (some 43) rfl rfl Try.func41 (by kernel_rfl) rfl #[.slice A1 l1.length c1] rfl (by (try simp only [List.map_toArray, List.map_cons, List.map_nil]); first | done | rfl | (simp only [List.length_drop, List.length_take]; rfl)) ?_; (with_reducible refine (laws_toGraphS.calls kj11 _ _ l1 t568 _ ?side1 ?side2 A26.out).mono ?_); (case side1 => repeat (first | exact (Kd.C_below HR1.out HB.out) | (with_reducible refine Kd.C_alloc ?_ _) | (with_reducible refine Kd.C_drewN ?_ _) | (with_reducible refine Kd.C_drew ?_))); (case side2 => exact HC1.out); rintro e w32 ⟨v569, rfl, ho0, hb⟩; refine ⟨_, rfl, ?_⟩; have n0_ := Aside0.mk (Kd.R_elder' (by (with_reducible repeat (first | apply Kd.R_alloc | apply Kd.R_drewN | apply Kd.R_drew)); exact HO_8.out) (Kd.R_base ho0) hb); have n1_ := Aside0.mk (Kd.R_lower (Kd.R_new' ho0 (Kd.R_lt (by (with_reducible repeat (first | apply Kd.R_alloc | apply Kd.R_drewN | apply Kd.R_drew)); exact HO_8.out))) (below_size (by repeat (first | (with_reducible first | exact HB.out | apply below_alloc | apply pw_below_drewN | apply below_drew1 | refine below_set ?_ GE552.out) | exact HB.out)))); have n2_ := Aside0.mk (blk_below (g := gb552) (o := .cells #[.int .i64 a0_0, .int .u32 a0_1] 45 (0, 0)) (by (with_reducible repeat (first | refine blk_drewN ?_ _ | refine blk_drew ?_ | refine blk_alloc ?_ _)); exact BK552.out) hb); have n3_ := Aside0.mk (below_step (by repeat (first | (with_reducible first | exact HB.out | apply below_alloc | apply pw_below_drewN | apply below_drew1 | refine below_set ?_ GE552.out) | exact HB.out)) hb); clear HO_8; clear BK552; clear HB; have HO_8 := n0_; have HO570 := n1_; have BK552 := n2_; have HB := n3_; clear n0_ n1_ n2_ n3_; (try clear hb); (try clear hb2); (try clear hk); (try clear hi); (try clear ho0); obtain ⟨Ao33, co33, eo33⟩ := Kd.R_slice HO570.out; subst eo33) | ((with_reducible refine gate_callee (f := 43) rfl ?_); refine goesL_ (some 44) rfl rfl Try.func43 (by kernel_rfl) rfl #[.slice Ao22 t561.length co22, .slice Ao33 t568.length co33] rfl (by (try simp only [List.map_toArray, List.map_cons, List.map_nil]); first | done | rfl | (simp only [List.length_drop, List.length_take]; rfl)) ?_; (with_reducible refine (laws_eqGraphS.calls kj11 _ _ t561 _ _ t568 false _ ?side1 ?side2 ?side3 ?side4 A27.out).mono ?_); (case side1 => repeat (first | exact (Kd.R_reads' HO_8.out).2.2 | (with_reducible refine Kd.C_alloc ?_ _) | (with_reducible refine Kd.C_drewN ?_ _) | (with_reducible refine Kd.C_drew ?_))); (case side2 => exact (Kd.R_reads' HO_8.out).2.1); (case side3 => repeat (first | exact (Kd.R_reads' HO570.out).2.2 | (with_reducible refine Kd.C_alloc ?_ _) | (with_reducible refine Kd.C_drewN ?_ _) | (with_reducible refine Kd.C_drew ?_))); (case side4 => exact (Kd.R_reads' HO570.out).2.1); rintro e w34 ⟨rfl, hb⟩; refine ⟨_, rfl, ?_⟩; have n0_ := Aside0.mk (Kd.R_below (by (with_reducible repeat (first | apply Kd.R_alloc | apply Kd.R_drewN | apply Kd.R_drew)); exact HO_8.out) hb); have n1_ := Aside0.mk (Kd.R_below (by (with_reducible repeat (first | apply Kd.R_alloc | apply Kd.R_drewN | apply Kd.R_drew)); exact HO570.out) hb); have n2_ := Aside0.mk (blk_below (g := gb552) (o := .cells #[.int .i64 a0_0, .int .u32 a0_1] 45 (0, 0)) (by (with_reducible repeat (first | refine blk_drewN ?_ _ | refine blk_drew ?_ | refine blk_alloc ?_ _)); exact BK552.out) hb); have n3_ := Aside0.mk (below_step (by repeat (first | (with_reducible first | exact HB.out | apply below_alloc | apply pw_below_drewN | apply below_drew1 | refine below_set ?_ GE552.out) | exact HB.out)) hb); clear HO_8; clear HO570; clear BK552; clear HB; have HO_8 := n0_; have HO570 := n1_; have BK552 := n2_; have HB := n3_; clear n0_ n1_ n2_ n3_; (try clear hb); (try clear hb2); (try clear hk); (try clear hi)))
            go_ret
            exact ⟨by first | rfl | (simp [errW_none, errW_some] <;> rfl) | (simp [*, errW_none, errW_some] <;> rfl), by repeat (first | (with_reducible first | exact HB.out | apply below_alloc | apply pw_below_drewN | apply below_drew1 | refine below_set ?_ GE552.out) | exact HB.out)⟩

end Go.Proofs.Ytafkdkiagmbeaaa.Q
end

section
namespace Go.Proofs.Ytafkdkiagmbeaaa.Q
open Go.RowKit Go.Proofs.YtafkdkiagmbeaaaW.PrintWords Go.Proofs.YtafkdkiagmbeaaaW.PrintLast Go.Proofs.YtafkdkiagmbeaaaW.PrintMore
attribute [local go_sem] max2_int min2_int max_two min_two max_three min_three max_four min_four   -- for this text's walks alone
set_option linter.unusedVariables false
set_option linter.unusedSimpArgs false

theorem eqGraphS_loop (l : List S46) (hl : l.length ≤ 1048576) : ∀ (d i k : Nat), i + d = l.length → d + 1 ≤ k → laws_eqGraphS.l0 k l l i = some true
  | 0, i, k, hd, hk => by
    obtain ⟨k, rfl⟩ : ∃ q, k = q + 1 := ⟨k - 1, by omega⟩
    rw [laws_eqGraphS.l0, if_neg (by omega)]
  | d + 1, i, k, hd, hk => by
    obtain ⟨k, rfl⟩ : ∃ q, k = q + 1 := ⟨k - 1, by omega⟩
    rw [laws_eqGraphS.l0, if_pos (by omega), if_pos (by omega), if_pos (by omega), laws_eqGraph.f, if_pos rfl, if_pos rfl]
    simp only [Option.bind_some, if_true]
    rw [w64_succ (by omega)]
    exact eqGraphS_loop l hl d (i + 1) k (by omega) (by omega)
theorem eqGraphS_self (l : List S46) (hl : l.length ≤ 1048576) (k : Nat) (hk : 1048577 ≤ k) : laws_eqGraphS.f k l l = some true := by
  unfold laws_eqGraphS.f
  rw [if_pos rfl]; exact eqGraphS_loop l hl l.length 0 k (by omega) (by omega)

end Go.Proofs.Ytafkdkiagmbeaaa.Q
end

section
namespace Go.Proofs.Ytafkdkiagmbeaaa.Q
open Go.RowKit Go.Proofs.YtafkdkiagmbeaaaW.PrintWords Go.Proofs.YtafkdkiagmbeaaaW.PrintLast Go.Proofs.YtafkdkiagmbeaaaW.PrintMore
attribute [local go_sem] max2_int min2_int max_two min_two max_three min_three max_four min_four   -- for this text's walks alone
set_option linter.unusedVariables false
set_option linter.unusedSimpArgs false

def idxI {α : Type} (p : α → Bool) : List α → Nat → Int
  | [], _ => -1
  | x :: xs, i => if p x = true then (i : Int) else idxI p xs (i + 1)
theorem idxI_any {α : Type} (p : α → Bool) : ∀ (L : List α) (i : Nat), decide (idxI p L i ≥ 0) = L.any p
  | [], _ => by simp [idxI]
  | x :: xs, i => by
    rw [idxI, List.any_cons]
    by_cases h : p x = true
    · rw [if_pos h, h]; simp
    · rw [if_neg h, idxI_any p xs (i + 1)]; simp [Bool.eq_false_iff.2 h]

end Go.Proofs.Ytafkdkiagmbeaaa.Q
end

section
namespace Go.Proofs.Ytafkdkiagmbeaaa.Q
open Go.RowKit Go.Proofs.YtafkdkiagmbeaaaW.PrintWords Go.Proofs.YtafkdkiagmbeaaaW.PrintLast Go.Proofs.YtafkdkiagmbeaaaW.PrintMore
attribute [local go_sem] max2_int min2_int max_two min_two max_three min_three max_four min_four   -- for this text's walks alone
set_option linter.unusedVariables false
set_option linter.unusedSimpArgs false

theorem idxGraph_loop (cb : Int → Int → Option Bool) (p : S46 → Bool) (L : List S46) (hL : L.length ≤ 1048576) (hcb : ∀ x ∈ L, cb x.f0 x.f1 = some (p x)) : ∀ (d i k : Nat), i + d = L.length → d + 1 ≤ k → impl_Graph_140.l0 cb k L (L.length : Int) i = some (idxI p (L.drop i) i)
  | 0, i, k, hd, hk => by
    obtain ⟨k, rfl⟩ : ∃ q, k = q + 1 := ⟨k - 1, by omega⟩
    rw [impl_Graph_140.l0, if_neg (by omega), List.drop_eq_nil_of_le (by omega)]; rfl
  | d + 1, i, k, hd, hk => by
    obtain ⟨k, rfl⟩ : ∃ q, k = q + 1 := ⟨k - 1, by omega⟩
    have hi : i < L.length := by omega
    have hr : rd_T46 L (i : Int) = L[i] := by unfold rd_T46; exact getD_of_lt L _ hi
    rw [impl_Graph_140.l0]
    simp only [hr]
    rw [if_pos (by omega), if_pos (by omega), if_pos (by omega), hcb _ (List.getElem_mem hi), w64_succ (by omega), List.drop_eq_getElem_cons hi, idxI]
    simp only [Option.bind_some]
    split
    · rfl
    · exact idxGraph_loop cb p L hL hcb d (i + 1) k (by omega) (by omega)
theorem idxGraph_eq (cb : Int → Int → Option Bool) (p : S46 → Bool) (L : List S46) (hL : L.length ≤ 1048576) (hcb : ∀ x ∈ L, cb x.f0 x.f1 = some (p x)) (k : Nat) (hk : L.length + 1 ≤ k) : impl_Graph_140.f cb k L = some (idxI p L 0) := by
  unfold impl_Graph_140.f
  have := idxGraph_loop cb p L hL hcb L.length 0 k (Nat.zero_add _) hk
  rw [show ((0 : Nat) : Int) = 0 from rfl, List.drop_zero] at this
  exact this
theorem anyGraph_eq (cb : Int → Int → Option Bool) (p : S46 → Bool) (L : List S46) (hL : L.length ≤ 1048576) (hcb : ∀ x ∈ L, cb x.f0 x.f1 = some (p x)) (k : Nat) (hk : L.length + 1 ≤ k) : impl_Graph_119.f cb k L = some (L.any p) := by
  unfold impl_Graph_119.f
  rw [idxGraph_eq cb p L hL hcb k hk]
  simp only [Option.bind_some, idxI_any]

end Go.Proofs.Ytafkdkiagmbeaaa.Q
end

section
namespace Go.Proofs.Ytafkdkiagmbeaaa.Q
open Go.RowKit Go.Proofs.YtafkdkiagmbeaaaW.PrintWords Go.Proofs.YtafkdkiagmbeaaaW.PrintLast Go.Proofs.YtafkdkiagmbeaaaW.PrintMore
attribute [local go_sem] max2_int min2_int max_two min_two max_three min_three max_four min_four   -- for this text's walks alone
set_option linter.unusedVariables false
set_option linter.unusedSimpArgs false

theorem l00In_eq (a b c : Int) : spec_l00In.f a b c = some (decide (b ≤ a ∧ a ≤ c)) := by
  unfold spec_l00In.f
  by_cases h : a ≥ b
  · rw [if_pos h]; congr 1; rw [decide_eq_decide]; omega
  · rw [if_neg h]; congr 1; symm; rw [decide_eq_false_iff_not]; omega
theorem small5 {n : Int} (h0 : 0 ≤ n) (h5 : n ≤ 5) : n = 0 ∨ n = 1 ∨ n = 2 ∨ n = 3 ∨ n = 4 ∨ n = 5 := by omega

end Go.Proofs.Ytafkdkiagmbeaaa.Q
end

section
namespace Go.Proofs.Ytafkdkiagmbeaaa.Q
open Go.RowKit Go.Proofs.YtafkdkiagmbeaaaW.PrintWords Go.Proofs.YtafkdkiagmbeaaaW.PrintLast Go.Proofs.YtafkdkiagmbeaaaW.PrintMore
attribute [local go_sem] max2_int min2_int max_two min_two max_three min_three max_four min_four   -- for this text's walks alone
set_option linter.unusedVariables false
set_option linter.unusedSimpArgs false

theorem in_eq (a b c : Int) : impl_in.f a b c = some (decide (b ≤ a ∧ a ≤ c)) := by
  unfold impl_in.f
  by_cases h : a ≥ b
  · rw [if_pos h]; congr 1; rw [decide_eq_decide]; omega
  · rw [if_neg h]; congr 1; symm; rw [decide_eq_false_iff_not]; omega

end Go.Proofs.Ytafkdkiagmbeaaa.Q
end

section
namespace Go.Proofs.Ytafkdkiagmbeaaa.Q
open Go.RowKit Go.Proofs.YtafkdkiagmbeaaaW.PrintWords Go.Proofs.YtafkdkiagmbeaaaW.PrintLast Go.Proofs.YtafkdkiagmbeaaaW.PrintMore
attribute [local go_sem] max2_int min2_int max_two min_two max_three min_three max_four min_four   -- for this text's walks alone
set_option linter.unusedVariables false
set_option linter.unusedSimpArgs false

def validG (n e : Int) : Bool := decide (0 ≤ n ∧ n ≤ 5 ∧ e < 2 ^ (n.toNat * (n.toNat - 1) / 2))
theorem l01Ok_eq (n e : Int) (h0 : 0 ≤ e) (h1 : e ≤ 4294967295) : spec_l01Ok.f n e = some (validG n e) := by
  have hw : wrap64 e = e := by unfold wrap64; omega
  unfold spec_l01Ok.f validG
  rw [l00In_eq, hw]; simp only [Option.bind_some]
  by_cases h : 0 ≤ n ∧ n ≤ 5
  · rw [if_pos (by simpa using h)]
    obtain ⟨ha, hb⟩ := h
    rcases small5 ha hb with rfl | rfl | rfl | rfl | rfl | rfl
    all_goals
      simp only [spec_l01Bits.f]
      simp [wrap64, IntKind.wrap_u64, shl, IntKind.wrap_i64, IntKind.bits]
  · rw [if_neg (by simpa using h)]; congr 1; symm; rw [decide_eq_false_iff_not]; omega

end Go.Proofs.Ytafkdkiagmbeaaa.Q
end

section
namespace Go.Proofs.Ytafkdkiagmbeaaa.Q
open Go.RowKit Go.Proofs.YtafkdkiagmbeaaaW.PrintWords Go.Proofs.YtafkdkiagmbeaaaW.PrintLast Go.Proofs.YtafkdkiagmbeaaaW.PrintMore
attribute [local go_sem] max2_int min2_int max_two min_two max_three min_three max_four min_four   -- for this text's walks alone
set_option linter.unusedVariables false
set_option linter.unusedSimpArgs false

theorem ValidGraph_eq (n e : Int) (h0 : 0 ≤ e) (h1 : e ≤ 4294967295) : impl_ValidGraph.f n e = some (validG n e) := by
  unfold impl_ValidGraph.f validG
  rw [in_eq]; simp only [Option.bind_some]
  by_cases h : 0 ≤ n ∧ n ≤ 5
  · rw [if_pos (by simpa using h)]
    obtain ⟨ha, hb⟩ := h
    rcases small5 ha hb with rfl | rfl | rfl | rfl | rfl | rfl
    all_goals
      simp only [impl_pairs.f]
      simp [wrap64, shr, IntKind.bits]
    all_goals (first | done | (rw [Bool.eq_iff_iff]; simp; omega))
  · rw [if_neg (by simpa using h)]; congr 1; symm; rw [decide_eq_false_iff_not]; omega

end Go.Proofs.Ytafkdkiagmbeaaa.Q
end

section
namespace Go.Proofs.Ytafkdkiagmbeaaa.Q
open Go.RowKit Go.Proofs.YtafkdkiagmbeaaaW.PrintWords Go.Proofs.YtafkdkiagmbeaaaW.PrintLast Go.Proofs.YtafkdkiagmbeaaaW.PrintMore
attribute [local go_sem] max2_int min2_int max_two min_two max_three min_three max_four min_four   -- for this text's walks alone
set_option linter.unusedVariables false
set_option linter.unusedSimpArgs false

def leavesIn (g : List Int → List (List Int)) (l : List Int) : Nat → Nat → List (List Int)
  | 0, _ => []
  | d + 1, i => if (i : Int) ∈ l then leavesIn g l d (i + 1) else g (l ++ [(i : Int)]) ++ leavesIn g l d (i + 1)
/-- All lists of different numbers below n that go on from l by r places, in order. -/
def leaves (n : Nat) : Nat → List Int → List (List Int)
  | 0, l => [l]
  | r + 1, l => leavesIn (leaves n r) l n 0
def runCb {σ : Type} (cb : List Int → σ → Option (Bool × σ)) : List (List Int) → σ → Option (Bool × σ)
  | [], a => some (false, a)
  | l :: ls, a => (cb l a).bind fun p => if p.1 = true then some (true, p.2) else runCb cb ls p.2
theorem runCb_append {σ : Type} (cb : List Int → σ → Option (Bool × σ)) (y : List (List Int)) : ∀ (x : List (List Int)) (a : σ), runCb cb (x ++ y) a = (runCb cb x a).bind fun p => if p.1 = true then some (true, p.2) else runCb cb y p.2
  | [], a => rfl
  | l :: ls, a => by
    simp only [List.cons_append, runCb]
    cases h : cb l a with
    | none => rfl
    | some p =>
      simp only [Option.bind_some]
      by_cases hp : p.1 = true
      · rw [if_pos hp, if_pos hp]; rfl
      · rw [if_neg hp, if_neg hp]; exact runCb_append cb y ls p.2
theorem lstdIn_eq {σ : Type} (cb : List Int → σ → Option (Bool × σ)) (f : List Int → σ → Option (Bool × σ)) (g : List Int → List (List Int)) (hf : ∀ l a, f l a = runCb cb (g l) a) (l : List Int) : ∀ (d i : Nat) (a : σ), lstdIn f l d i a = runCb cb (leavesIn g l d i) a
  | 0, _, _ => rfl
  | d + 1, i, a => by
    rw [lstdIn, leavesIn]
    by_cases h : (i : Int) ∈ l
    · rw [if_pos h, if_pos h]; exact lstdIn_eq cb f g hf l d (i + 1) a
    · rw [if_neg h, if_neg h, runCb_append, hf]
      congr 1
      funext p
      by_cases hp : p.1 = true
      · rw [if_pos hp, if_pos hp]
      · rw [if_neg hp, if_neg hp]; exact lstdIn_eq cb f g hf l d (i + 1) p.2
theorem lstd_eq {σ : Type} (cb : List Int → σ → Option (Bool × σ)) (n : Nat) : ∀ (r : Nat) (l : List Int) (a : σ), lstd cb n r l a = runCb cb (leaves n r l) a
  | 0, l, a => by
    simp only [lstd, leaves, runCb]
    cases cb l a with
    | none => rfl
    | some p =>
      obtain ⟨b, a'⟩ := p
      cases b <;> rfl
  | r + 1, l, a => by
    rw [lstd, leaves]
    exact lstdIn_eq cb _ _ (fun l a => lstd_eq cb n r l a) l n 0 a
/-- A callback that only looks. -/
theorem runCb_any (cb : List Int → Option Bool) (p : List Int → Bool) : ∀ (L : List (List Int)), (∀ l ∈ L, cb l = some (p l)) → runCb (fun l (_ : Unit) => (cb l).map fun b => (b, ())) L () = some (L.any p, ())
  | [], _ => rfl
  | l :: ls, h => by
    simp only [runCb, h l (List.mem_cons_self), Option.map_some, Option.bind_some, List.any_cons]
    cases hp : p l
    · simp only [Bool.false_eq_true, if_false, Bool.false_or]
      exact runCb_any cb p ls fun x hx => h x (List.mem_cons_of_mem _ hx)
    · simp
end Go.Proofs.Ytafkdkiagmbeaaa.Q
end

section
namespace Go.Proofs.Ytafkdkiagmbeaaa.Q
open Go.RowKit Go.Proofs.YtafkdkiagmbeaaaW.PrintWords Go.Proofs.YtafkdkiagmbeaaaW.PrintLast Go.Proofs.YtafkdkiagmbeaaaW.PrintMore
attribute [local go_sem] max2_int min2_int max_two min_two max_three min_three max_four min_four   -- for this text's walks alone
set_option linter.unusedVariables false
set_option linter.unusedSimpArgs false

/-- All numbers of the list lie in 0 .. m and none occurs twice. -/
def allDiff (m : Int) (l : List Int) : Prop := l.Nodup ∧ ∀ x ∈ l, 0 ≤ x ∧ x ≤ m
instance (m : Int) (l : List Int) : Decidable (allDiff m l) := by unfold allDiff; infer_instance
end Go.Proofs.Ytafkdkiagmbeaaa.Q
end

section
namespace Go.Proofs.Ytafkdkiagmbeaaa.Q
open Go.RowKit Go.Proofs.YtafkdkiagmbeaaaW.PrintWords Go.Proofs.YtafkdkiagmbeaaaW.PrintLast Go.Proofs.YtafkdkiagmbeaaaW.PrintMore
attribute [local go_sem] max2_int min2_int max_two min_two max_three min_three max_four min_four   -- for this text's walks alone
set_option linter.unusedVariables false
set_option linter.unusedSimpArgs false

theorem wrap_u32_nat (v : BitVec 32) : IntKind.u32.wrap ((v.toNat : Nat) : Int) = ((v.toNat : Nat) : Int) := by
  rw [IntKind.wrap_u32]; have := v.isLt; omega
theorem bits_and32 (x y : Int) : Go.bits .and .u32 x y = (((BitVec.ofInt 32 x &&& BitVec.ofInt 32 y).toNat : Nat) : Int) := wrap_u32_nat _
theorem bits_andNot32 (x y : Int) : Go.bits .andNot .u32 x y = (((BitVec.ofInt 32 x &&& ~~~ BitVec.ofInt 32 y).toNat : Nat) : Int) := wrap_u32_nat _

end Go.Proofs.Ytafkdkiagmbeaaa.Q
end

section
namespace Go.Proofs.Ytafkdkiagmbeaaa.Q
open Go.RowKit Go.Proofs.YtafkdkiagmbeaaaW.PrintWords Go.Proofs.YtafkdkiagmbeaaaW.PrintLast Go.Proofs.YtafkdkiagmbeaaaW.PrintMore
attribute [local go_sem] max2_int min2_int max_two min_two max_three min_three max_four min_four   -- for this text's walks alone
set_option linter.unusedVariables false
set_option linter.unusedSimpArgs false

def firstI : Nat → List Int
  | 0 => []
  | n + 1 => firstI n ++ [(n : Int)]
theorem firstS_eq (n : Int) (h0 : 0 ≤ n) (h5 : n ≤ 5) (k : Nat) (hk : 40 ≤ k) : spec_l01First.f k n = some (firstI n.toNat) := by
  obtain ⟨k, rfl⟩ : ∃ m, k = m + 40 := ⟨k - 40, by omega⟩
  rcases small5 h0 h5 with rfl | rfl | rfl | rfl | rfl | rfl <;> kernel_rfl

end Go.Proofs.Ytafkdkiagmbeaaa.Q
end

section
namespace Go.Proofs.Ytafkdkiagmbeaaa.Q
open Go.RowKit Go.Proofs.YtafkdkiagmbeaaaW.PrintWords Go.Proofs.YtafkdkiagmbeaaaW.PrintLast Go.Proofs.YtafkdkiagmbeaaaW.PrintMore
attribute [local go_sem] max2_int min2_int max_two min_two max_three min_three max_four min_four   -- for this text's walks alone
set_option linter.unusedVariables false
set_option linter.unusedSimpArgs false

def isChain (n : Int) : List (List Int) → Bool
  | [] => true
  | x :: ls => match ls with
    | [] => match spec_l01Next.f 100 x n with | some (false, _) => true | _ => false
    | y :: _ => decide (spec_l01Next.f 100 x n = some (true, y)) && isChain n ls
theorem chains : ∀ n, n < 6 → ∀ r, r < n + 1 → (leaves n r []).head? = some (firstI r) ∧ isChain n (leaves n r []) = true := by decide +kernel
theorem next_ge {x : List Int} {n : Int} {p : Bool × List Int} (h : spec_l01Next.f 100 x n = some p) (k : Nat) (hk : 100 ≤ k) : spec_l01Next.f k x n = some p :=
  LeO_ge (F := fun k => spec_l01Next.f k x n) (fun k => spec_l01Next.mono x n k) hk _ h
theorem chain_one {n : Int} {x : List Int} (h : isChain n [x] = true) : ∃ y, ∀ k, 100 ≤ k → spec_l01Next.f k x n = some (false, y) := by
  simp only [isChain] at h
  split at h
  · next y e => exact ⟨y, fun k hk => next_ge e k hk⟩
  · cases h
theorem chain_cons {n : Int} {x y : List Int} {ls : List (List Int)} (h : isChain n (x :: y :: ls) = true) : (∀ k, 100 ≤ k → spec_l01Next.f k x n = some (true, y)) ∧ isChain n (y :: ls) = true := by
  rw [isChain] at h
  simp only [Bool.and_eq_true, decide_eq_true_eq] at h
  exact ⟨fun k hk => next_ge h.1 k hk, h.2⟩
end Go.Proofs.Ytafkdkiagmbeaaa.Q
end

section
namespace Go.Proofs.Ytafkdkiagmbeaaa.Q
open Go.RowKit Go.Proofs.YtafkdkiagmbeaaaW.PrintWords Go.Proofs.YtafkdkiagmbeaaaW.PrintLast Go.Proofs.YtafkdkiagmbeaaaW.PrintMore
attribute [local go_sem] max2_int min2_int max_two min_two max_three min_three max_four min_four   -- for this text's walks alone
set_option linter.unusedVariables false
set_option linter.unusedSimpArgs false

theorem allDiff_len {n : Int} (h0 : 0 ≤ n) (h5 : n ≤ 5) {l : List Int} (h : allDiff (wrap64 (n - 1)) l) : l.length ≤ n.toNat ∧ ∀ x ∈ l, 0 ≤ x ∧ x < n := by
  have hw : wrap64 (n - 1) = n - 1 := by unfold wrap64; omega
  rw [hw] at h
  have h2 : ∀ x ∈ l, 0 ≤ x ∧ x < n := fun x hx => by have := h.2 x hx; omega
  exact ⟨pigeon n.toNat l h.1 fun x hx => by have := h2 x hx; omega, h2⟩

end Go.Proofs.Ytafkdkiagmbeaaa.Q
end

section
namespace Go.Proofs.Ytafkdkiagmbeaaa.Q
open Go.RowKit Go.Proofs.YtafkdkiagmbeaaaW.PrintWords Go.Proofs.YtafkdkiagmbeaaaW.PrintLast Go.Proofs.YtafkdkiagmbeaaaW.PrintMore
attribute [local go_sem] max2_int min2_int max_two min_two max_three min_three max_four min_four   -- for this text's walks alone
set_option linter.unusedVariables false
set_option linter.unusedSimpArgs false

theorem l01Bit_eq (k : Nat) {i j : Int} (i0 : 0 ≤ i) (i4 : i ≤ 4) (j0 : 0 ≤ j) (j4 : j ≤ 4) : spec_l01Bit.f (k + 2) i j = some (bitI i j) := by
  rcases small4 i0 i4 with rfl | rfl | rfl | rfl | rfl <;> rcases small4 j0 j4 with rfl | rfl | rfl | rfl | rfl <;> kernel_rfl

end Go.Proofs.Ytafkdkiagmbeaaa.Q
end
