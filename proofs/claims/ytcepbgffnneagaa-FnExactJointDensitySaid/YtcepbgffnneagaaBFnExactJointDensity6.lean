/- Contracts of Go functions and plain lemmas over what they compute; printed by the kit's print program or written by hand, joined. -/
import Derived.Test.YtcepbgffnneagaaBFnExactJointDensity3
import Derived.Test.YtcepbgffnneagaaBFnExactJointDensity4
import Derived.Test.YtcepbgffnneagaaBFnExactJointDensity5
section
namespace Go.Proofs.Ytcepbgffnneagaa.Q
open Go.RowKit Go.Proofs.YtcepbgffnneagaaW.PrintWords Go.Proofs.YtcepbgffnneagaaW.PrintLast Go.Proofs.YtcepbgffnneagaaW.PrintMore
attribute [local go_sem] max2_int min2_int max_two min_two max_three min_three max_four min_four
set_option linter.unusedVariables false
set_option linter.unusedSimpArgs false
section
def spec_l03Least.l0 : Nat → List Int → Bool → Int → Int → Int → Int → Int → Int → Option (Int × Int × Int)
 | 0, _, _, _, _, _, _, _, _ => none
 | k + 1, x4, x5, x259000, x259001, x259002, x261000, x261001, x261002 => if x5 = true then ((spec_l03Order.f k x259000 x4).bind fun t264 => ((spec_l01On.f k x259001 x259002 t264).bind fun bt267 => (if bt267.2 < x261002 then ((spec_l01Next.f k x4 (wrap64 (x259001 - x259000))).bind fun bt270 => (spec_l03Least.l0 k bt270.2 bt270.1 x259000 x259001 x259002 x261000 bt267.1 bt267.2)) else ((spec_l01Next.f k x4 (wrap64 (x259001 - x259000))).bind fun bt272 => (spec_l03Least.l0 k bt272.2 bt272.1 x259000 x259001 x259002 x261000 x261001 x261002))))) else (some (x261000, x261001, x261002))
def spec_l03Least.f (k : Nat) (a0_0 : Int) (a0_1 : Int) (a0_2 : Int) : Option (Int × Int × Int) := (spec_l01First.f k (wrap64 (a0_1 - a0_0))).bind fun t261 => (spec_l03Least.l0 k t261 true a0_0 a0_1 a0_2 a0_0 a0_1 a0_2)
def spec_l03Least.T6 : Bool × List (List Nat × List Nat) := (true, [([], []), ([0], [0]), ([], []), ([2], [2]), ([], []), ([3, 4], [3, 4]), ([1, 5, 5], [1, 5]), ([], []), ([7, 6, 6, 0, 1, 2, 3, 4, 5, 6, 7], [6, 7])])
def spec_l03Least.B6 : List Nat := [0, 1, 0, 4, 0, 28, 63, 0, 255]
theorem spec_l03Least.tab6 : rtab .any (opsOf Try.f126 6) = spec_l03Least.T6 := by kernel_rfl
theorem spec_l03Least.bits6 : waitsOk spec_l03Least.T6.2 spec_l03Least.B6 = true := by kernel_rfl
set_option maxHeartbeats 8000000 in
set_option maxRecDepth 100000 in
theorem spec_l03Least.calls (k : Nat) (a0_0 : Int) (a0_1 : Int) (a0_2 : Int) (r1 : Int) (r2 : Int) (r3 : Int) (w : World) (h : spec_l03Least.f k a0_0 a0_1 a0_2 = some (r1, r2, r3)) :
  Calls Try.prog 126 #[.agg #[.int .i64 a0_0, .int .i64 a0_1, .int .u32 a0_2]] w fun e w' => e = .returned (.agg #[.int .i64 r1, .int .i64 r2, .int .u32 r3]) ∧ Below w.heap.size w w' := by
 have hu45 := Try.underlying45
 have hu27 := Try.underlying27
 have HB := Aside0.mk (Below.refl w.heap.size w)
 unfold spec_l03Least.f at h
 have H := h
 clear h
 replace H := Option.bind_eq_some_iff.mp H
 obtain ⟨t261, A20, H⟩ := H
 (try dsimp only at H)
 have A2 := Aside0.mk A20
 clear A20
 have H' := Aside0.mk H
 clear H
 go_enter Try.func126, Try.ntmps126
 go_wp2_with (first | ((with_reducible refine gate_dst (N := 1) rfl ?_); refine box_event rfl (N := 1) rfl (cs := #[.int .i64 a0_0, .int .i64 a0_1, .int .u32 a0_2]) (t := 45) ?hr ?_; (case hr => first | (go_simp; done) | (go_simp; rfl)); intro gb258 hg w3 hbox hb; have BK258 := Aside0.mk (hbox); have GW258 := geA HB hg; replace HB := hbB HB hb; have GE258 := GW258; clear hb hbox hg) | ((with_reducible refine gate_dst (N := 2) rfl ?_); refine box_event rfl (N := 2) rfl (cs := #[.int .i64 0, .int .i64 0, .int .u32 0]) (t := 45) ?hr ?_; (case hr => first | (go_simp; done) | (go_simp; rfl)); intro gb259 hg w4 hbox hb; have BK259 := Aside0.mk (hbox); have GW259 := geA HB hg; replace HB := hbB HB hb; have GE259 := GW259; have NB258_259 := nbA hg BK258; replace BK258 := bkB BK258 hb; have NB259_258 := neA NB258_259; clear hb hbox hg; have hnb5 := NB258_259.out; have hnc5 := NB259_258.out; have hcz6_0 : w4.cell? ⟨gb258, 0, none⟩ = some (.int .i64 a0_0) := bcA BK258 0 rfl; have hcz6_1 : w4.cell? ⟨gb258, 1, none⟩ = some (.int .i64 a0_1) := bcA BK258 1 rfl; have hcz6_2 : w4.cell? ⟨gb258, 2, none⟩ = some (.int .u32 a0_2) := bcA BK258 2 rfl; have hfz6_0 := blk_frozen BK258.out 0; have hfz6_1 := blk_frozen BK258.out 1; have hfz6_2 := blk_frozen BK258.out 2) | ((with_reducible refine gate_dst (N := 3) rfl ?_); refine box_event rfl (N := 3) rfl (cs := #[.int .i64 0, .int .i64 0, .int .u32 0]) (t := 45) ?hr ?_; (case hr => first | (go_simp; done) | (go_simp; rfl)); intro gb260 hg w7 hbox hb; have BK260 := Aside0.mk (hbox); have GW260 := geA HB hg; replace HB := hbB HB hb; have GE260 := GW260; have NB258_260 := nbA hg BK258; replace BK258 := bkB BK258 hb; have NB260_258 := neA NB258_260; have NB259_260 := nbA hg BK259; replace BK259 := bkB BK259 hb; have NB260_259 := neA NB259_260; clear hb hbox hg; have hnb8 := NB260_258.out; have hnc8 := NB258_260.out; have hnb9 := NB260_259.out; have hnc9 := NB259_260.out; have hcz10_0 : w7.cell? ⟨gb260, 0, none⟩ = some (.int .i64 0) := bcA BK260 0 rfl; have hcz10_1 : w7.cell? ⟨gb260, 1, none⟩ = some (.int .i64 0) := bcA BK260 1 rfl; have hcz10_2 : w7.cell? ⟨gb260, 2, none⟩ = some (.int .u32 0) := bcA BK260 2 rfl; have hfz10_0 := blk_frozen BK260.out 0; have hfz10_1 := blk_frozen BK260.out 1; have hfz10_2 := blk_frozen BK260.out 2; have hcz11_0 : w7.cell? ⟨gb258, 0, none⟩ = some (.int .i64 a0_0) := bcA BK258 0 rfl; have hcz11_1 : w7.cell? ⟨gb258, 1, none⟩ = some (.int .i64 a0_1) := bcA BK258 1 rfl; have hcz11_2 : w7.cell? ⟨gb258, 2, none⟩ = some (.int .u32 a0_2) := bcA BK258 2 rfl; have hfz11_0 := blk_frozen BK258.out 0; have hfz11_1 := blk_frozen BK258.out 1; have hfz11_2 := blk_frozen BK258.out 2) | ((with_reducible refine gate_callee (f := 92) rfl ?_); refine goesL_ (some 14) rfl rfl Try.func92 (by kernel_rfl) rfl #[.int .i64 (wrap64 (a0_1 - a0_0))] rfl (by (try simp only [maA, mbA, mcA]); first | done | rfl | (simp only [List.length_drop, List.length_take]; rfl)) ?_; (with_reducible refine (spec_l01First.calls k (wrap64 (a0_1 - a0_0)) t261 _ A2.out).mono ?_); rintro e w12 ⟨v262, rfl, ho0, hb⟩; refine ⟨_, rfl, ?_⟩; have HO263 := Aside0.mk (Kd.R_lower ho0 (below_size (by repeat (first | (with_reducible first | exact HB.out | apply below_alloc | apply pw_below_drewN | apply below_drew1 | refine below_set ?_ (Aside0.out (by assumption))) | exact HB.out)))); replace BK258 := Aside0.mk (blk_below (g := gb258) (o := .cells #[.int .i64 a0_0, .int .i64 a0_1, .int .u32 a0_2] 45 (0, 0)) (by (with_reducible repeat (first | refine blk_drewN ?_ _ | refine blk_drew ?_ | refine blk_alloc ?_ _)); refine blk_far ?_ NB258_260.out _; (with_reducible repeat (first | refine blk_drewN ?_ _ | refine blk_drew ?_ | refine blk_alloc ?_ _)); refine blk_far ?_ NB258_260.out _; (with_reducible repeat (first | refine blk_drewN ?_ _ | refine blk_drew ?_ | refine blk_alloc ?_ _)); refine blk_far ?_ NB258_260.out _; (with_reducible repeat (first | refine blk_drewN ?_ _ | refine blk_drew ?_ | refine blk_alloc ?_ _)); exact BK258.out) hb); replace BK259 := Aside0.mk (blk_below (g := gb259) (o := .cells #[.int .i64 0, .int .i64 0, .int .u32 0] 45 (0, 0)) (by (with_reducible repeat (first | refine blk_drewN ?_ _ | refine blk_drew ?_ | refine blk_alloc ?_ _)); refine blk_far ?_ NB259_260.out _; (with_reducible repeat (first | refine blk_drewN ?_ _ | refine blk_drew ?_ | refine blk_alloc ?_ _)); refine blk_far ?_ NB259_260.out _; (with_reducible repeat (first | refine blk_drewN ?_ _ | refine blk_drew ?_ | refine blk_alloc ?_ _)); refine blk_far ?_ NB259_260.out _; (with_reducible repeat (first | refine blk_drewN ?_ _ | refine blk_drew ?_ | refine blk_alloc ?_ _)); exact BK259.out) hb); replace BK260 := Aside0.mk (blk_below (g := gb260) (o := .cells #[.int .i64 a0_0, .int .i64 a0_1, .int .u32 a0_2] 45 (0, 0)) (by (with_reducible repeat (first | refine blk_drewN ?_ _ | refine blk_drew ?_ | refine blk_alloc ?_ _)); refine blk_put (cs := #[.int .i64 a0_0, .int .i64 a0_1, .int .u32 0]) ?_ 2 _ rfl; (with_reducible repeat (first | refine blk_drewN ?_ _ | refine blk_drew ?_ | refine blk_alloc ?_ _)); refine blk_put (cs := #[.int .i64 a0_0, .int .i64 0, .int .u32 0]) ?_ 1 _ rfl; (with_reducible repeat (first | refine blk_drewN ?_ _ | refine blk_drew ?_ | refine blk_alloc ?_ _)); refine blk_put (cs := #[.int .i64 0, .int .i64 0, .int .u32 0]) ?_ 0 _ rfl; (with_reducible repeat (first | refine blk_drewN ?_ _ | refine blk_drew ?_ | refine blk_alloc ?_ _)); exact BK260.out) hb); replace HB := Aside0.mk (below_step (by repeat (first | (with_reducible first | exact HB.out | apply below_alloc | apply pw_below_drewN | apply below_drew1 | refine below_set ?_ (Aside0.out (by assumption))) | exact HB.out)) hb); (try clear hb); (try clear hk); (try clear ho0)))
 go_loopg [5] k (fun kq v5 w' => ∃ (x4_1 : List Int) (x5_1 : Bool) (x261001_1 : Int) (x261002_1 : Int), v5 = .bool x5_1 ∧ Aside0 (spec_l03Least.l0 kq x4_1 x5_1 a0_0 a0_1 a0_2 a0_0 x261001_1 x261002_1 = some (r1, r2, r3)) ∧ Aside0 (kq ≤ k) ∧ Aside0 (Kd.R (Kd.int .i64) 2 w' w.heap.size (fun _ => True) v262 x4_1) ∧ Aside0 (w'.heap[gb258]? = some (.cells #[.int .i64 a0_0, .int .i64 a0_1, .int .u32 a0_2] 45 (0, 0))) ∧ Aside0 (w'.heap[gb259]? = some (.cells #[.int .i64 0, .int .i64 0, .int .u32 0] 45 (0, 0))) ∧ Aside0 (w'.heap[gb260]? = some (.cells #[.int .i64 a0_0, .int .i64 x261001_1, .int .u32 x261002_1] 45 (0, 0))) ∧ Aside0 (Below w.heap.size w w'))
 case atStart => exact ⟨(t261), (true), (a0_1), (a0_2), (by first | rfl | (simp; done) | (simp [*]; done)), H', ⟨Nat.le_refl _⟩, ⟨by (with_reducible repeat (first | apply Kd.R_alloc | apply Kd.R_drewN | apply Kd.R_drew)); exact HO263.out⟩, ⟨by (with_reducible repeat (first | refine blk_drewN ?_ _ | refine blk_drew ?_ | refine blk_alloc ?_ _)); exact BK258.out⟩, ⟨by (with_reducible repeat (first | refine blk_drewN ?_ _ | refine blk_drew ?_ | refine blk_alloc ?_ _)); exact BK259.out⟩, ⟨by (with_reducible repeat (first | refine blk_drewN ?_ _ | refine blk_drew ?_ | refine blk_alloc ?_ _)); exact BK260.out⟩, ⟨by repeat (first | (with_reducible first | exact HB.out | apply below_alloc | apply pw_below_drewN | apply below_drew1 | refine below_set ?_ (Aside0.out (by assumption))) | exact HB.out)⟩⟩
 case round =>
  clear H'
  try clear c1
  try clear p2
  try clear c5
  try clear p6
  try clear c8
  try clear c9
  try clear c12
  try clear hcz10_0
  try clear hcz10_1
  try clear hcz10_2
  try clear hcz11_0
  try clear hcz11_1
  try clear hcz11_2
  try clear hcz6_0
  try clear hcz6_1
  try clear hcz6_2
  try clear hfz10_0
  try clear hfz10_1
  try clear hfz10_2
  try clear hfz11_0
  try clear hfz11_1
  try clear hfz11_2
  try clear hfz6_0
  try clear hfz6_1
  try clear hfz6_2
  obtain ⟨x4_1, x5_1, x261001_1, x261002_1, rfl, HA, HK1, HO_4, BK258, BK259, BK260, HB⟩ := hrel
  cases gk with
  | zero => exact absurd HA.out (by simp [spec_l03Least.l0])
  | succ k1 =>
   have H := HA.out
   clear HA
   simp only [spec_l03Least.l0] at H
   by_cases c13 : x5_1 = true
   ·subst c13
    rw [if_pos rfl] at H
    replace H := Option.bind_eq_some_iff.mp H
    obtain ⟨t264, A140, H⟩ := H
    (try dsimp only at H)
    have A14 := Aside0.mk A140
    clear A140
    replace H := Option.bind_eq_some_iff.mp H
    obtain ⟨⟨t267, t268⟩, A150, H⟩ := H
    (try dsimp only at H)
    have A15 := Aside0.mk A150
    clear A150
    by_cases c16 : t268 < x261002_1
    ·rw [if_pos c16] at H
     have c16b0 : decide (t268 < x261002_1) = true := decide_eq_true c16
     clear c16
     replace H := Option.bind_eq_some_iff.mp H
     obtain ⟨⟨t270, t271⟩, A170, H⟩ := H
     (try dsimp only at H)
     have A17 := Aside0.mk A170
     clear A170
     have H' := Aside0.mk H
     clear H
     obtain ⟨Ao18, co18, eo18⟩ := Kd.R_slice HO_4.out
     subst eo18
     try go_wp2
     replace HO_4 := Aside0.mk (Kd.R_drew HO_4.out)
     replace BK258 := Aside0.mk (blk_drew BK258.out)
     replace BK259 := Aside0.mk (blk_drew BK259.out)
     replace BK260 := Aside0.mk (blk_drew BK260.out)
     replace HB := Aside0.mk (below_drew1 HB.out)
     refine start_ (n := 9) (S := fun w' => w'.cell? ⟨gb258, 0, none⟩ = some (.int .i64 a0_0) ∧ w'.cell? ⟨gb258, 1, none⟩ = some (.int .i64 a0_1) ∧ w'.cell? ⟨gb258, 2, none⟩ = some (.int .u32 a0_2)) (ds := []) #[false, false, false, false, false, false, false, false, false] (by kernel_rfl) rfl rfl ⟨bcA BK258 0 rfl, bcA BK258 1 rfl, bcA BK258 2 rfl⟩ (fun hHeld => ?_); refine with_tabW spec_l03Least.tab6 spec_l03Least.bits6 (fun HT_ HW_ => ?_)
     generalize wr.drew = w19 at HO_4 BK258 BK259 BK260 HB hHeld ⊢
     refine pure_ (i := 0) (N := some 24) (v := ?_) (a' := ?_) #[true, false, false, false, false, false, false, false, false] rfl rfl (any_of HT_.out (by kernel_rfl)) (fun _ _ _ h => h) (Or.inl ⟨by rfl, ?_⟩) ?_ ?_
     rotate_left;(intro w';go_simp;with_reducible rfl);rotate_left;(simp only [Act.put, psA, pzA, pnA, i64_w, i32_w];rfl)
     refine pure_ (i := 2) (N := some 26) (v := ?_) (a' := ?_) #[true, false, true, false, false, false, false, false, false] rfl rfl (any_of HT_.out (by kernel_rfl)) (fun _ _ _ h => h) (Or.inl ⟨by rfl, ?_⟩) ?_ ?_
     rotate_left;(intro w';go_simp;with_reducible rfl);rotate_left;(simp only [Act.put, psA, pzA, pnA, i64_w, i32_w];rfl)
     refine pure_ (i := 4) (N := some 28) (v := ?_) (a' := ?_) #[true, false, true, false, true, false, false, false, false] rfl rfl (any_of HT_.out (by kernel_rfl)) (fun _ _ _ h => h) (Or.inl ⟨by rfl, ?_⟩) ?_ ?_
     rotate_left;(intro w';go_simp;with_reducible rfl);rotate_left;(simp only [Act.put, psA, pzA, pnA, i64_w, i32_w];rfl)
     refine take_ (i := 1) (N := some 25) (v := ?_) (a' := ?_) #[true, true, true, false, true, false, false, false, false] rfl rfl (take_ofW HT_.out HW_.out (by kernel_rfl)) (fun _ _ _ h => h) (Or.inl ⟨by rfl, ?_⟩) hHeld ?_ ?_
     rotate_left;(rintro w' ⟨s0, s1, s2⟩;go_simp;with_reducible rfl);rotate_left;(simp only [Act.put, psA, pzA, pnA, i64_w, i32_w];rfl)
     refine take_ (i := 3) (N := some 27) (v := ?_) (a' := ?_) #[true, true, true, true, true, false, false, false, false] rfl rfl (take_ofW HT_.out HW_.out (by kernel_rfl)) (fun _ _ _ h => h) (Or.inl ⟨by rfl, ?_⟩) hHeld ?_ ?_
     rotate_left;(rintro w' ⟨s0, s1, s2⟩;go_simp;with_reducible rfl);rotate_left;(simp only [Act.put, psA, pzA, pnA, i64_w, i32_w];rfl)
     refine join_ (σ := Value × Nat) 1 #[true, true, true, true, true, true, true, true, false] (fun s_ => [(29, s_.1), (30, .agg #[.int .i64 t267, .int .u32 t268]), (6, .pointer (some ⟨s_.2, 0, none⟩))]) (fun s_ w' => (w'.cell? ⟨gb258, 0, none⟩ = some (.int .i64 a0_0) ∧ w'.cell? ⟨gb258, 1, none⟩ = some (.int .i64 a0_1) ∧ w'.cell? ⟨gb258, 2, none⟩ = some (.int .u32 a0_2)) ∧ (Kd.R (Kd.int .i64) 2 w' w.heap.size (fun k_ => some k_ ≠ (.slice Ao18 x4_1.length co18 : Value).ownBlock) s_.1 t264) ∧ (Kd.R (Kd.int .i64) 2 w' w.heap.size (fun k_ => some k_ ≠ (s_.1 : Value).ownBlock) (.slice Ao18 x4_1.length co18) x4_1) ∧ (w'.heap[gb258]? = some (.cells #[.int .i64 a0_0, .int .i64 a0_1, .int .u32 a0_2] 45 (0, 0))) ∧ (w'.heap[gb259]? = some (.cells #[.int .i64 0, .int .i64 0, .int .u32 0] 45 (0, 0))) ∧ (w'.heap[gb260]? = some (.cells #[.int .i64 a0_0, .int .i64 x261001_1, .int .u32 x261002_1] 45 (0, 0))) ∧ (w'.heap[s_.2]? = some (.cells #[.int .i64 0, .int .u32 0] 27 (0, 0))) ∧ (w.heap.size ≤ s_.2) ∧ (w.heap.size ≤ s_.2) ∧ (gb258 ≠ s_.2) ∧ (s_.2 ≠ gb258) ∧ (gb259 ≠ s_.2) ∧ (s_.2 ≠ gb259) ∧ (gb260 ≠ s_.2) ∧ (s_.2 ≠ gb260) ∧ (Below w.heap.size w w')) ?_ ?_
     rotate_left
     ·intro hCont
      refine two_ (i := 5) (j := 7) (Ni := some 29) (Nj := some 6) #[true, true, true, true, true, true, false, false, false] #[true, true, true, true, true, false, false, true, false] rfl rfl rfl rfl (two_of HT_.out (by kernel_rfl)) (by decide) (by decide) (fun K hK => ?_) (fun K hK => ?_)
      ·skip
       refine goes_ Try.func167 (by kernel_rfl) rfl #[.int .i64 a0_0, .slice Ao18 x4_1.length co18] (by rfl) rfl rfl (by first | rfl | (simp only [List.map_toArray, List.map_cons, List.map_nil, List.length_drop, List.length_take]; rfl)) ?_
       with_reducible refine (spec_l03Order.calls k1 a0_0 _ _ x4_1 t264 _ ?side1 ?side2 A14.out).mono ?_
       (case side1 => repeat (first | exact (Kd.R_reads' HO_4.out).2.2 | (with_reducible refine Kd.C_alloc ?_ _) | (with_reducible refine Kd.C_drewN ?_ _) | (with_reducible refine Kd.C_drew ?_)))
       (case side2 => exact (Kd.R_reads' HO_4.out).2.1)
       rintro e w20 ⟨v265, rfl, ho0, hb⟩
       refine ⟨_, rfl, ?_⟩
       have HO266 := Aside0.mk (Kd.R_lower (Kd.R_new' ho0 (Kd.R_lt (by (with_reducible repeat (first | apply Kd.R_alloc | apply Kd.R_drewN | apply Kd.R_drew)); exact HO_4.out))) (below_size HB.out))
       replace HO_4 := Aside0.mk (Kd.R_elder' (by (with_reducible repeat (first | apply Kd.R_alloc | apply Kd.R_drewN | apply Kd.R_drew)); exact HO_4.out) (Kd.R_base ho0) hb)
       replace BK258 := bkB BK258 hb
       replace BK259 := bkB BK259 hb
       replace BK260 := bkB BK260 hb
       replace HB := hbB HB hb
       (try clear hb)
       (try clear hk)
       (try clear ho0)
       obtain ⟨Ao21, co21, eo21⟩ := Kd.R_slice HO266.out
       (first | subst eo21 | (injection eo21 with f1_ f2_ f3_; have f4_ := f1_.symm; have f5_ := f3_.symm; clear f1_ f2_ f3_; subst f4_; subst f5_))
       refine hK.out _ _ ⟨bcA BK258 0 rfl, bcA BK258 1 rfl, bcA BK258 2 rfl⟩ (fun hHeld => ?_)
       clear hK K
       refine norm_ (a' := ?_) ?_ ?_
       rotate_left;(show Act.put _ (some 29) _ = _;simp only [Act.put, psA, pzA, pnA, i64_w, i32_w];rfl)
       refine two_ (i := 6) (j := 7) (Ni := some 30) (Nj := some 6) #[true, true, true, true, true, true, true, false, false] #[true, true, true, true, true, true, false, true, false] rfl rfl rfl rfl (two_of HT_.out (by kernel_rfl)) (by decide) (by decide) (fun K hK => ?_) (fun K hK => ?_)
       ·skip
        refine goes_ Try.func61 (by kernel_rfl) rfl #[.agg #[.int .i64 a0_1, .int .u32 a0_2], .slice Ao21 t264.length co21] (by rfl) rfl rfl (by first | rfl | (simp only [List.map_toArray, List.map_cons, List.map_nil, List.length_drop, List.length_take]; rfl)) ?_
        with_reducible refine (spec_l01On.calls k1 a0_1 a0_2 _ _ t264 t267 t268 _ ?side1 ?side2 A15.out).mono ?_
        (case side1 => repeat (first | exact (Kd.R_reads' HO266.out).2.2 | (with_reducible refine Kd.C_alloc ?_ _) | (with_reducible refine Kd.C_drewN ?_ _) | (with_reducible refine Kd.C_drew ?_)))
        (case side2 => exact (Kd.R_reads' HO266.out).2.1)
        rintro e w22 ⟨rfl, hb⟩
        refine ⟨_, rfl, ?_⟩
        replace HO_4 := Kd.R_b HO_4 hb
        replace HO266 := Kd.R_b HO266 hb
        replace BK258 := bkB BK258 hb
        replace BK259 := bkB BK259 hb
        replace BK260 := bkB BK260 hb
        replace HB := hbB HB hb
        (try clear hb)
        (try clear hk)
        refine hK.out _ _ ⟨bcA BK258 0 rfl, bcA BK258 1 rfl, bcA BK258 2 rfl⟩ (fun hHeld => ?_)
        clear hK K
        refine norm_ (a' := ?_) ?_ ?_
        rotate_left;(show Act.put _ (some 30) _ = _;simp only [Act.put, psA, pzA, pnA, i64_w, i32_w];rfl)
        refine one_ (i := 7) (N := some 6) #[true, true, true, true, true, true, true, true, false] rfl rfl (one_of HT_.out (by kernel_rfl)) (by decide) (fun K hK => ?_)
        refine box_step ?hg (N := 6) ?hd (cs := #[.int .i64 0, .int .u32 0]) (t := 27) ?hr ?_; (case hd => rfl); (case hg => rfl); (case hr => first | (go_simp; done) | (go_simp; rfl))
        intro gb269 hg w23 hbox hb
        replace HO_4 := Kd.R_b HO_4 hb
        replace HO266 := Kd.R_b HO266 hb
        have BK269 := Aside0.mk (hbox)
        have GW269 := geA HB hg
        replace HB := hbB HB hb
        have GE269 := GW269
        have NB258_269 := nbA hg BK258
        replace BK258 := bkB BK258 hb
        have NB269_258 := neA NB258_269
        have NB259_269 := nbA hg BK259
        replace BK259 := bkB BK259 hb
        have NB269_259 := neA NB259_269
        have NB260_269 := nbA hg BK260
        replace BK260 := bkB BK260 hb
        have NB269_260 := neA NB260_269
        clear hb hbox hg
        refine hK.out _ _ ⟨bcA BK258 0 rfl, bcA BK258 1 rfl, bcA BK258 2 rfl⟩ (fun hHeld => ?_)
        clear hK K
        refine norm_ (a' := ?_) ?_ ?_
        rotate_left;(show Act.put _ (some 6) _ = _;simp only [Act.put, psA, pzA, pnA, i64_w, i32_w];rfl)
        exact norm_ (by simp only [putAll, Act.put, psA, pzA, pnA]) (hCont (.slice Ao21 t264.length co21, gb269) _ ⟨hHeld, (by (with_reducible repeat (first | apply Kd.R_alloc | apply Kd.R_drewN | apply Kd.R_drew)); exact Kd.R_mono HO266.out (fun _ hk => hk.2)), (by (with_reducible repeat (first | apply Kd.R_alloc | apply Kd.R_drewN | apply Kd.R_drew)); exact Kd.R_mono HO_4.out (fun _ hk => hk.2)), BK258.out, BK259.out, BK260.out, BK269.out, GW269.out, GE269.out, NB258_269.out, NB269_258.out, NB259_269.out, NB269_259.out, NB260_269.out, NB269_260.out, HB.out⟩)
       ·skip
        refine box_step ?hg (N := 6) ?hd (cs := #[.int .i64 0, .int .u32 0]) (t := 27) ?hr ?_; (case hd => rfl); (case hg => rfl); (case hr => first | (go_simp; done) | (go_simp; rfl))
        intro gb269 hg w21 hbox hb
        replace HO_4 := Kd.R_b HO_4 hb
        replace HO266 := Kd.R_b HO266 hb
        have BK269 := Aside0.mk (hbox)
        have GW269 := geA HB hg
        replace HB := hbB HB hb
        have GE269 := GW269
        have NB258_269 := nbA hg BK258
        replace BK258 := bkB BK258 hb
        have NB269_258 := neA NB258_269
        have NB259_269 := nbA hg BK259
        replace BK259 := bkB BK259 hb
        have NB269_259 := neA NB259_269
        have NB260_269 := nbA hg BK260
        replace BK260 := bkB BK260 hb
        have NB269_260 := neA NB260_269
        clear hb hbox hg
        obtain ⟨Ao22, co22, eo22⟩ := Kd.R_slice HO266.out
        (first | subst eo22 | (injection eo22 with f1_ f2_ f3_; have f4_ := f1_.symm; have f5_ := f3_.symm; clear f1_ f2_ f3_; subst f4_; subst f5_))
        refine hK.out _ _ ⟨bcA BK258 0 rfl, bcA BK258 1 rfl, bcA BK258 2 rfl⟩ (fun hHeld => ?_)
        clear hK K
        refine norm_ (a' := ?_) ?_ ?_
        rotate_left;(show Act.put _ (some 6) _ = _;simp only [Act.put, psA, pzA, pnA, i64_w, i32_w];rfl)
        refine one_ (i := 6) (N := some 30) #[true, true, true, true, true, true, true, true, false] rfl rfl (one_of HT_.out (by kernel_rfl)) (by decide) (fun K hK => ?_)
        refine goes_ Try.func61 (by kernel_rfl) rfl #[.agg #[.int .i64 a0_1, .int .u32 a0_2], .slice Ao22 t264.length co22] (by rfl) rfl rfl (by first | rfl | (simp only [List.map_toArray, List.map_cons, List.map_nil, List.length_drop, List.length_take]; rfl)) ?_
        with_reducible refine (spec_l01On.calls k1 a0_1 a0_2 _ _ t264 t267 t268 _ ?side1 ?side2 A15.out).mono ?_
        (case side1 => repeat (first | exact (Kd.R_reads' HO266.out).2.2 | (with_reducible refine Kd.C_alloc ?_ _) | (with_reducible refine Kd.C_drewN ?_ _) | (with_reducible refine Kd.C_drew ?_)))
        (case side2 => exact (Kd.R_reads' HO266.out).2.1)
        rintro e w23 ⟨rfl, hb⟩
        refine ⟨_, rfl, ?_⟩
        replace HO_4 := Kd.R_b HO_4 hb
        replace HO266 := Kd.R_b HO266 hb
        replace BK258 := bkB BK258 hb
        replace BK259 := bkB BK259 hb
        replace BK260 := bkB BK260 hb
        replace BK269 := bkB BK269 hb
        replace HB := hbB HB hb
        (try clear hb)
        (try clear hk)
        refine hK.out _ _ ⟨bcA BK258 0 rfl, bcA BK258 1 rfl, bcA BK258 2 rfl⟩ (fun hHeld => ?_)
        clear hK K
        refine norm_ (a' := ?_) ?_ ?_
        rotate_left;(show Act.put _ (some 30) _ = _;simp only [Act.put, psA, pzA, pnA, i64_w, i32_w];rfl)
        exact norm_ (by simp only [putAll, Act.put, psA, pzA, pnA]) (hCont (.slice Ao22 t264.length co22, gb269) _ ⟨hHeld, (by (with_reducible repeat (first | apply Kd.R_alloc | apply Kd.R_drewN | apply Kd.R_drew)); exact Kd.R_mono HO266.out (fun _ hk => hk.2)), (by (with_reducible repeat (first | apply Kd.R_alloc | apply Kd.R_drewN | apply Kd.R_drew)); exact Kd.R_mono HO_4.out (fun _ hk => hk.2)), BK258.out, BK259.out, BK260.out, BK269.out, GW269.out, GE269.out, NB258_269.out, NB269_258.out, NB259_269.out, NB269_259.out, NB260_269.out, NB269_260.out, HB.out⟩)
      ·skip
       refine box_step ?hg (N := 6) ?hd (cs := #[.int .i64 0, .int .u32 0]) (t := 27) ?hr ?_; (case hd => rfl); (case hg => rfl); (case hr => first | (go_simp; done) | (go_simp; rfl))
       intro gb269 hg w20 hbox hb
       replace HO_4 := Kd.R_b HO_4 hb
       have BK269 := Aside0.mk (hbox)
       have GW269 := geA HB hg
       replace HB := hbB HB hb
       have GE269 := GW269
       have NB258_269 := nbA hg BK258
       replace BK258 := bkB BK258 hb
       have NB269_258 := neA NB258_269
       have NB259_269 := nbA hg BK259
       replace BK259 := bkB BK259 hb
       have NB269_259 := neA NB259_269
       have NB260_269 := nbA hg BK260
       replace BK260 := bkB BK260 hb
       have NB269_260 := neA NB260_269
       clear hb hbox hg
       refine hK.out _ _ ⟨bcA BK258 0 rfl, bcA BK258 1 rfl, bcA BK258 2 rfl⟩ (fun hHeld => ?_)
       clear hK K
       refine norm_ (a' := ?_) ?_ ?_
       rotate_left;(show Act.put _ (some 6) _ = _;simp only [Act.put, psA, pzA, pnA, i64_w, i32_w];rfl)
       refine one_ (i := 5) (N := some 29) #[true, true, true, true, true, true, false, true, false] rfl rfl (one_of HT_.out (by kernel_rfl)) (by decide) (fun K hK => ?_)
       refine goes_ Try.func167 (by kernel_rfl) rfl #[.int .i64 a0_0, .slice Ao18 x4_1.length co18] (by rfl) rfl rfl (by first | rfl | (simp only [List.map_toArray, List.map_cons, List.map_nil, List.length_drop, List.length_take]; rfl)) ?_
       with_reducible refine (spec_l03Order.calls k1 a0_0 _ _ x4_1 t264 _ ?side1 ?side2 A14.out).mono ?_
       (case side1 => repeat (first | exact (Kd.R_reads' HO_4.out).2.2 | (with_reducible refine Kd.C_alloc ?_ _) | (with_reducible refine Kd.C_drewN ?_ _) | (with_reducible refine Kd.C_drew ?_)))
       (case side2 => exact (Kd.R_reads' HO_4.out).2.1)
       rintro e w21 ⟨v265, rfl, ho0, hb⟩
       refine ⟨_, rfl, ?_⟩
       have HO266 := Aside0.mk (Kd.R_lower (Kd.R_new' ho0 (Kd.R_lt (by (with_reducible repeat (first | apply Kd.R_alloc | apply Kd.R_drewN | apply Kd.R_drew)); exact HO_4.out))) (below_size HB.out))
       replace HO_4 := Aside0.mk (Kd.R_elder' (by (with_reducible repeat (first | apply Kd.R_alloc | apply Kd.R_drewN | apply Kd.R_drew)); exact HO_4.out) (Kd.R_base ho0) hb)
       replace BK258 := bkB BK258 hb
       replace BK259 := bkB BK259 hb
       replace BK260 := bkB BK260 hb
       replace BK269 := bkB BK269 hb
       replace HB := hbB HB hb
       (try clear hb)
       (try clear hk)
       (try clear ho0)
       obtain ⟨Ao22, co22, eo22⟩ := Kd.R_slice HO266.out
       (first | subst eo22 | (injection eo22 with f1_ f2_ f3_; have f4_ := f1_.symm; have f5_ := f3_.symm; clear f1_ f2_ f3_; subst f4_; subst f5_))
       refine hK.out _ _ ⟨bcA BK258 0 rfl, bcA BK258 1 rfl, bcA BK258 2 rfl⟩ (fun hHeld => ?_)
       clear hK K
       refine norm_ (a' := ?_) ?_ ?_
       rotate_left;(show Act.put _ (some 29) _ = _;simp only [Act.put, psA, pzA, pnA, i64_w, i32_w];rfl)
       refine one_ (i := 6) (N := some 30) #[true, true, true, true, true, true, true, true, false] rfl rfl (one_of HT_.out (by kernel_rfl)) (by decide) (fun K hK => ?_)
       refine goes_ Try.func61 (by kernel_rfl) rfl #[.agg #[.int .i64 a0_1, .int .u32 a0_2], .slice Ao22 t264.length co22] (by rfl) rfl rfl (by first | rfl | (simp only [List.map_toArray, List.map_cons, List.map_nil, List.length_drop, List.length_take]; rfl)) ?_
       with_reducible refine (spec_l01On.calls k1 a0_1 a0_2 _ _ t264 t267 t268 _ ?side1 ?side2 A15.out).mono ?_
       (case side1 => repeat (first | exact (Kd.R_reads' HO266.out).2.2 | (with_reducible refine Kd.C_alloc ?_ _) | (with_reducible refine Kd.C_drewN ?_ _) | (with_reducible refine Kd.C_drew ?_)))
       (case side2 => exact (Kd.R_reads' HO266.out).2.1)
       rintro e w23 ⟨rfl, hb⟩
       refine ⟨_, rfl, ?_⟩
       replace HO_4 := Kd.R_b HO_4 hb
       replace HO266 := Kd.R_b HO266 hb
       replace BK258 := bkB BK258 hb
       replace BK259 := bkB BK259 hb
       replace BK260 := bkB BK260 hb
       replace BK269 := bkB BK269 hb
       replace HB := hbB HB hb
       (try clear hb)
       (try clear hk)
       refine hK.out _ _ ⟨bcA BK258 0 rfl, bcA BK258 1 rfl, bcA BK258 2 rfl⟩ (fun hHeld => ?_)
       clear hK K
       refine norm_ (a' := ?_) ?_ ?_
       rotate_left;(show Act.put _ (some 30) _ = _;simp only [Act.put, psA, pzA, pnA, i64_w, i32_w];rfl)
       exact norm_ (by simp only [putAll, Act.put, psA, pzA, pnA]) (hCont (.slice Ao22 t264.length co22, gb269) _ ⟨hHeld, (by (with_reducible repeat (first | apply Kd.R_alloc | apply Kd.R_drewN | apply Kd.R_drew)); exact Kd.R_mono HO266.out (fun _ hk => hk.2)), (by (with_reducible repeat (first | apply Kd.R_alloc | apply Kd.R_drewN | apply Kd.R_drew)); exact Kd.R_mono HO_4.out (fun _ hk => hk.2)), BK258.out, BK259.out, BK260.out, BK269.out, GW269.out, GE269.out, NB258_269.out, NB269_258.out, NB259_269.out, NB269_259.out, NB260_269.out, NB269_260.out, HB.out⟩)
     rintro ⟨v265, gb269⟩ w24 ⟨hS_, h0_, h1_, h2_, h3_, h4_, h5_, h6_, h7_, h8_, h9_, h10_, h11_, h12_, h13_, h14_⟩
     have n0_ : Aside0 (Kd.R (Kd.int .i64) 2 w24 w.heap.size (fun k_ => some k_ ≠ (.slice Ao18 x4_1.length co18 : Value).ownBlock) v265 t264) := ⟨h0_⟩
     have n1_ : Aside0 (Kd.R (Kd.int .i64) 2 w24 w.heap.size (fun k_ => some k_ ≠ (v265 : Value).ownBlock) (.slice Ao18 x4_1.length co18) x4_1) := ⟨h1_⟩
     have n2_ : Aside0 (w24.heap[gb258]? = some (.cells #[.int .i64 a0_0, .int .i64 a0_1, .int .u32 a0_2] 45 (0, 0))) := ⟨h2_⟩
     have n3_ : Aside0 (w24.heap[gb259]? = some (.cells #[.int .i64 0, .int .i64 0, .int .u32 0] 45 (0, 0))) := ⟨h3_⟩
     have n4_ : Aside0 (w24.heap[gb260]? = some (.cells #[.int .i64 a0_0, .int .i64 x261001_1, .int .u32 x261002_1] 45 (0, 0))) := ⟨h4_⟩
     have n5_ : Aside0 (w24.heap[gb269]? = some (.cells #[.int .i64 0, .int .u32 0] 27 (0, 0))) := ⟨h5_⟩
     have n6_ : Aside0 (w.heap.size ≤ gb269) := ⟨h6_⟩
     have n7_ : Aside0 (w.heap.size ≤ gb269) := ⟨h7_⟩
     have n8_ : Aside0 (gb258 ≠ gb269) := ⟨h8_⟩
     have n9_ : Aside0 (gb269 ≠ gb258) := ⟨h9_⟩
     have n10_ : Aside0 (gb259 ≠ gb269) := ⟨h10_⟩
     have n11_ : Aside0 (gb269 ≠ gb259) := ⟨h11_⟩
     have n12_ : Aside0 (gb260 ≠ gb269) := ⟨h12_⟩
     have n13_ : Aside0 (gb269 ≠ gb260) := ⟨h13_⟩
     have n14_ : Aside0 (Below w.heap.size w w24) := ⟨h14_⟩
     clear HO_4 BK258 BK259 BK260 HB
     clear h0_ h1_ h2_ h3_ h4_ h5_ h6_ h7_ h8_ h9_ h10_ h11_ h12_ h13_ h14_
     have HO266 := n0_
     have HO_4 := n1_
     have BK258 := n2_
     have BK259 := n3_
     have BK260 := n4_
     have BK269 := n5_
     have GW269 := n6_
     have GE269 := n7_
     have NB258_269 := n8_
     have NB269_258 := n9_
     have NB259_269 := n10_
     have NB269_259 := n11_
     have NB260_269 := n12_
     have NB269_260 := n13_
     have HB := n14_
     clear n0_ n1_ n2_ n3_ n4_ n5_ n6_ n7_ n8_ n9_ n10_ n11_ n12_ n13_ n14_
     have hHeld : w24.cell? ⟨gb258, 0, none⟩ = some (.int .i64 a0_0) ∧ w24.cell? ⟨gb258, 1, none⟩ = some (.int .i64 a0_1) ∧ w24.cell? ⟨gb258, 2, none⟩ = some (.int .u32 a0_2) := hS_
     refine norm_ (a' := ?_) ?_ ?_
     rotate_left;(simp only [putAll, Act.put, psA, pzA, pnA];rfl)
     refine one_ (i := 8) (N := none) #[true, true, true, true, true, true, true, true, true] rfl rfl (one_of HT_.out (by kernel_rfl)) (by decide) (fun K hK => ?_)
     have hs25 : w24.cell? ⟨gb269, 0, none⟩ = some (.int .i64 0) := bcA BK269 0 rfl
     have hfs25 := blk_frozen BK269.out 0
     have hns25_0 := NB258_269.out
     have hns25_1 := NB259_269.out
     have hns25_2 := NB260_269.out
     have hms25_0 := NB269_258.out
     have hms25_1 := NB269_259.out
     have hms25_2 := NB269_260.out
     have hs26 : w24.cell? ⟨gb269, 1, none⟩ = some (.int .u32 0) := bcA BK269 1 rfl
     have hfs26 := blk_frozen BK269.out 1
     have hns26_0 := NB258_269.out
     have hns26_1 := NB259_269.out
     have hns26_2 := NB260_269.out
     have hms26_0 := NB269_258.out
     have hms26_1 := NB269_259.out
     have hms26_2 := NB269_260.out
     refine skip_ (w1 := ?_) (by rfl) rfl ?_ ?_
     rotate_left
     ·go_simp
      rfl
     refine hK.out _ _ ⟨((cell_far (p := ⟨gb269, _, none⟩) NB258_269.out _).trans (((cell_far (p := ⟨gb269, _, none⟩) NB258_269.out _).trans (hHeld.1)))), ((cell_far (p := ⟨gb269, _, none⟩) NB258_269.out _).trans (((cell_far (p := ⟨gb269, _, none⟩) NB258_269.out _).trans (hHeld.2.1)))), ((cell_far (p := ⟨gb269, _, none⟩) NB258_269.out _).trans (((cell_far (p := ⟨gb269, _, none⟩) NB258_269.out _).trans (hHeld.2.2))))⟩ (fun hHeld => ?_)
     clear hK K
     refine done_ (done_of HT_.out (by kernel_rfl)) ?_
     have n0_ : Aside0 (Kd.R (Kd.int .i64) 2 ((w24.setCell ⟨gb269, 0, none⟩ (.int .i64 t267)).setCell ⟨gb269, 1, none⟩ (.int .u32 t268)) w.heap.size (fun k_ => some k_ ≠ (v265 : Value).ownBlock) (.slice Ao18 x4_1.length co18) x4_1) := ⟨by (with_reducible repeat (first | apply Kd.R_alloc | apply Kd.R_drewN | apply Kd.R_drew)); exact Kd.R_mono (Kd.R_far (p := ⟨gb269, 1, none⟩) (Kd.R_far (p := ⟨gb269, 0, none⟩) (Kd.R_types HO_4.out BK269.out (by decide)) (fun _ hk => hk.2) (.int .i64 t267)) (fun _ hk => hk.2) (.int .u32 t268)) (fun _ hk => hk.1)⟩
     have n1_ : Aside0 (Kd.R (Kd.int .i64) 2 ((w24.setCell ⟨gb269, 0, none⟩ (.int .i64 t267)).setCell ⟨gb269, 1, none⟩ (.int .u32 t268)) w.heap.size (fun k_ => some k_ ≠ (.slice Ao18 x4_1.length co18 : Value).ownBlock) v265 t264) := ⟨by (with_reducible repeat (first | apply Kd.R_alloc | apply Kd.R_drewN | apply Kd.R_drew)); exact Kd.R_mono (Kd.R_far (p := ⟨gb269, 1, none⟩) (Kd.R_far (p := ⟨gb269, 0, none⟩) (Kd.R_types HO266.out BK269.out (by decide)) (fun _ hk => hk.2) (.int .i64 t267)) (fun _ hk => hk.2) (.int .u32 t268)) (fun _ hk => hk.1)⟩
     have n2_ : Aside0 (((w24.setCell ⟨gb269, 0, none⟩ (.int .i64 t267)).setCell ⟨gb269, 1, none⟩ (.int .u32 t268)).heap[gb258]? = some (.cells #[.int .i64 a0_0, .int .i64 a0_1, .int .u32 a0_2] 45 (0, 0))) := ⟨by (with_reducible repeat (first | refine blk_drewN ?_ _ | refine blk_drew ?_ | refine blk_alloc ?_ _)); refine blk_far ?_ NB258_269.out _; (with_reducible repeat (first | refine blk_drewN ?_ _ | refine blk_drew ?_ | refine blk_alloc ?_ _)); refine blk_far ?_ NB258_269.out _; (with_reducible repeat (first | refine blk_drewN ?_ _ | refine blk_drew ?_ | refine blk_alloc ?_ _)); exact BK258.out⟩
     have n3_ : Aside0 (((w24.setCell ⟨gb269, 0, none⟩ (.int .i64 t267)).setCell ⟨gb269, 1, none⟩ (.int .u32 t268)).heap[gb259]? = some (.cells #[.int .i64 0, .int .i64 0, .int .u32 0] 45 (0, 0))) := ⟨by (with_reducible repeat (first | refine blk_drewN ?_ _ | refine blk_drew ?_ | refine blk_alloc ?_ _)); refine blk_far ?_ NB259_269.out _; (with_reducible repeat (first | refine blk_drewN ?_ _ | refine blk_drew ?_ | refine blk_alloc ?_ _)); refine blk_far ?_ NB259_269.out _; (with_reducible repeat (first | refine blk_drewN ?_ _ | refine blk_drew ?_ | refine blk_alloc ?_ _)); exact BK259.out⟩
     have n4_ : Aside0 (((w24.setCell ⟨gb269, 0, none⟩ (.int .i64 t267)).setCell ⟨gb269, 1, none⟩ (.int .u32 t268)).heap[gb260]? = some (.cells #[.int .i64 a0_0, .int .i64 x261001_1, .int .u32 x261002_1] 45 (0, 0))) := ⟨by (with_reducible repeat (first | refine blk_drewN ?_ _ | refine blk_drew ?_ | refine blk_alloc ?_ _)); refine blk_far ?_ NB260_269.out _; (with_reducible repeat (first | refine blk_drewN ?_ _ | refine blk_drew ?_ | refine blk_alloc ?_ _)); refine blk_far ?_ NB260_269.out _; (with_reducible repeat (first | refine blk_drewN ?_ _ | refine blk_drew ?_ | refine blk_alloc ?_ _)); exact BK260.out⟩
     have n5_ : Aside0 (((w24.setCell ⟨gb269, 0, none⟩ (.int .i64 t267)).setCell ⟨gb269, 1, none⟩ (.int .u32 t268)).heap[gb269]? = some (.cells #[.int .i64 t267, .int .u32 t268] 27 (0, 0))) := ⟨by (with_reducible repeat (first | refine blk_drewN ?_ _ | refine blk_drew ?_ | refine blk_alloc ?_ _)); refine blk_put (cs := #[.int .i64 t267, .int .u32 0]) ?_ 1 _ rfl; (with_reducible repeat (first | refine blk_drewN ?_ _ | refine blk_drew ?_ | refine blk_alloc ?_ _)); refine blk_put (cs := #[.int .i64 0, .int .u32 0]) ?_ 0 _ rfl; (with_reducible repeat (first | refine blk_drewN ?_ _ | refine blk_drew ?_ | refine blk_alloc ?_ _)); exact BK269.out⟩
     have n6_ : Aside0 (Below w.heap.size w ((w24.setCell ⟨gb269, 0, none⟩ (.int .i64 t267)).setCell ⟨gb269, 1, none⟩ (.int .u32 t268))) := ⟨by repeat (first | (with_reducible first | exact HB.out | apply below_alloc | apply pw_below_drewN | apply below_drew1 | refine below_set ?_ (Aside0.out (by assumption))) | exact HB.out)⟩
     (try clear HO_4)
     (try clear HO266)
     (try clear BK258)
     (try clear BK259)
     (try clear BK260)
     (try clear BK269)
     (try clear HB)
     generalize ((w24.setCell ⟨gb269, 0, none⟩ (.int .i64 t267)).setCell ⟨gb269, 1, none⟩ (.int .u32 t268)) = w27 at n0_ n1_ n2_ n3_ n4_ n5_ n6_ ⊢
     have HO_4 := n0_
     have HO266 := n1_
     have BK258 := n2_
     have BK259 := n3_
     have BK260 := n4_
     have BK269 := n5_
     have HB := n6_
     clear n0_ n1_ n2_ n3_ n4_ n5_ n6_
     have hnb28 := NB269_258.out
     have hnc28 := NB258_269.out
     have hnb29 := NB269_259.out
     have hnc29 := NB259_269.out
     have hnb30 := NB269_260.out
     have hnc30 := NB260_269.out
     have hcz31_0 : w27.cell? ⟨gb269, 0, none⟩ = some (.int .i64 t267) := bcA BK269 0 rfl
     have hcz31_1 : w27.cell? ⟨gb269, 1, none⟩ = some (.int .u32 t268) := bcA BK269 1 rfl
     have hfz31_0 := blk_frozen BK269.out 0
     have hfz31_1 := blk_frozen BK269.out 1
     have hnb32 := NB260_258.out
     have hnc32 := NB258_260.out
     have hnb33 := NB260_259.out
     have hnc33 := NB259_260.out
     have hcz34_0 : w27.cell? ⟨gb260, 0, none⟩ = some (.int .i64 a0_0) := bcA BK260 0 rfl
     have hcz34_1 : w27.cell? ⟨gb260, 1, none⟩ = some (.int .i64 x261001_1) := bcA BK260 1 rfl
     have hcz34_2 : w27.cell? ⟨gb260, 2, none⟩ = some (.int .u32 x261002_1) := bcA BK260 2 rfl
     have hfz34_0 := blk_frozen BK260.out 0
     have hfz34_1 := blk_frozen BK260.out 1
     have hfz34_2 := blk_frozen BK260.out 2
     try go_wp2_with (first | ((with_reducible refine gate_store (t := 27) (p := 38) rfl ?_); refine store_event (t := 27) (p := 38) (v := ?vo_w35) (w1 := ((w27.setCell ⟨gb260, 1, none⟩ (.int .i64 t267)).setCell ⟨gb260, 2, none⟩ (.int .u32 t268))) ?hg ?ho ?hn ?hr ?_; (case ho => rfl); (case hg => rfl); (case hn => rfl); (case hr => first | (go_simp; done) | (go_simp; rfl)); intro w35 hw; have n0_ : Aside0 (Kd.R (Kd.int .i64) 2 w35 w.heap.size (fun k_ => some k_ ≠ (v265 : Value).ownBlock) (.slice Ao18 x4_1.length co18) x4_1) := ⟨(by rw [hw]; exact (by (with_reducible repeat (first | apply Kd.R_alloc | apply Kd.R_drewN | apply Kd.R_drew)); exact Kd.R_mono (Kd.R_far (p := ⟨gb260, 2, none⟩) (Kd.R_far (p := ⟨gb260, 1, none⟩) (Kd.R_types HO_4.out BK260.out (by decide)) (fun _ hk => hk.2) (.int .i64 t267)) (fun _ hk => hk.2) (.int .u32 t268)) (fun _ hk => hk.1)))⟩; have n1_ : Aside0 (Kd.R (Kd.int .i64) 2 w35 w.heap.size (fun k_ => some k_ ≠ (.slice Ao18 x4_1.length co18 : Value).ownBlock) v265 t264) := ⟨(by rw [hw]; exact (by (with_reducible repeat (first | apply Kd.R_alloc | apply Kd.R_drewN | apply Kd.R_drew)); exact Kd.R_mono (Kd.R_far (p := ⟨gb260, 2, none⟩) (Kd.R_far (p := ⟨gb260, 1, none⟩) (Kd.R_types HO266.out BK260.out (by decide)) (fun _ hk => hk.2) (.int .i64 t267)) (fun _ hk => hk.2) (.int .u32 t268)) (fun _ hk => hk.1)))⟩; have n2_ : Aside0 (w35.heap[gb258]? = some (.cells #[.int .i64 a0_0, .int .i64 a0_1, .int .u32 a0_2] 45 (0, 0))) := ⟨(by rw [hw]; exact (by (with_reducible repeat (first | refine blk_drewN ?_ _ | refine blk_drew ?_ | refine blk_alloc ?_ _)); refine blk_far ?_ NB258_260.out _; (with_reducible repeat (first | refine blk_drewN ?_ _ | refine blk_drew ?_ | refine blk_alloc ?_ _)); refine blk_far ?_ NB258_260.out _; (with_reducible repeat (first | refine blk_drewN ?_ _ | refine blk_drew ?_ | refine blk_alloc ?_ _)); exact BK258.out))⟩; have n3_ : Aside0 (w35.heap[gb259]? = some (.cells #[.int .i64 0, .int .i64 0, .int .u32 0] 45 (0, 0))) := ⟨(by rw [hw]; exact (by (with_reducible repeat (first | refine blk_drewN ?_ _ | refine blk_drew ?_ | refine blk_alloc ?_ _)); refine blk_far ?_ NB259_260.out _; (with_reducible repeat (first | refine blk_drewN ?_ _ | refine blk_drew ?_ | refine blk_alloc ?_ _)); refine blk_far ?_ NB259_260.out _; (with_reducible repeat (first | refine blk_drewN ?_ _ | refine blk_drew ?_ | refine blk_alloc ?_ _)); exact BK259.out))⟩; have n4_ : Aside0 (w35.heap[gb260]? = some (.cells #[.int .i64 a0_0, .int .i64 t267, .int .u32 t268] 45 (0, 0))) := ⟨(by rw [hw]; exact (by (with_reducible repeat (first | refine blk_drewN ?_ _ | refine blk_drew ?_ | refine blk_alloc ?_ _)); refine blk_put (cs := #[.int .i64 a0_0, .int .i64 t267, .int .u32 x261002_1]) ?_ 2 _ rfl; (with_reducible repeat (first | refine blk_drewN ?_ _ | refine blk_drew ?_ | refine blk_alloc ?_ _)); refine blk_put (cs := #[.int .i64 a0_0, .int .i64 x261001_1, .int .u32 x261002_1]) ?_ 1 _ rfl; (with_reducible repeat (first | refine blk_drewN ?_ _ | refine blk_drew ?_ | refine blk_alloc ?_ _)); exact BK260.out))⟩; have n5_ : Aside0 (w35.heap[gb269]? = some (.cells #[.int .i64 t267, .int .u32 t268] 27 (0, 0))) := ⟨(by rw [hw]; exact (by (with_reducible repeat (first | refine blk_drewN ?_ _ | refine blk_drew ?_ | refine blk_alloc ?_ _)); refine blk_far ?_ NB269_260.out _; (with_reducible repeat (first | refine blk_drewN ?_ _ | refine blk_drew ?_ | refine blk_alloc ?_ _)); refine blk_far ?_ NB269_260.out _; (with_reducible repeat (first | refine blk_drewN ?_ _ | refine blk_drew ?_ | refine blk_alloc ?_ _)); exact BK269.out))⟩; have n6_ : Aside0 (Below w.heap.size w w35) := ⟨(by rw [hw]; exact (by repeat (first | (with_reducible first | exact HB.out | apply below_alloc | apply pw_below_drewN | apply below_drew1 | refine below_set ?_ (Aside0.out (by assumption))) | exact HB.out)))⟩; clear hw; clear HO_4; clear HO266; clear BK258; clear BK259; clear BK260; clear BK269; clear HB; have HO_4 := n0_; have HO266 := n1_; have BK258 := n2_; have BK259 := n3_; have BK260 := n4_; have BK269 := n5_; have HB := n6_; clear n0_ n1_ n2_ n3_ n4_ n5_ n6_; have hnb36 := NB258_259.out; have hnc36 := NB259_258.out; have hcz37_0 : w35.cell? ⟨gb258, 0, none⟩ = some (.int .i64 a0_0) := bcA BK258 0 rfl; have hcz37_1 : w35.cell? ⟨gb258, 1, none⟩ = some (.int .i64 a0_1) := bcA BK258 1 rfl; have hcz37_2 : w35.cell? ⟨gb258, 2, none⟩ = some (.int .u32 a0_2) := bcA BK258 2 rfl; have hfz37_0 := blk_frozen BK258.out 0; have hfz37_1 := blk_frozen BK258.out 1; have hfz37_2 := blk_frozen BK258.out 2) | ((with_reducible refine gate_callee (f := 94) rfl ?_); refine goesL_ (some 23) rfl rfl Try.func94 (by kernel_rfl) rfl #[.slice Ao18 x4_1.length co18, .int .i64 (wrap64 (a0_1 - a0_0))] rfl (by (try simp only [maA, mbA, mcA]); first | done | rfl | (simp only [List.length_drop, List.length_take]; rfl)) ?_; (with_reducible refine (spec_l01Next.calls k1 (fun k_ => some k_ = (.slice Ao18 x4_1.length co18 : Value).ownBlock) (.slice Ao18 x4_1.length co18) x4_1 (wrap64 (a0_1 - a0_0)) t270 t271 w _ ?side1 ?side2 A17.out).mono ?_); (case side1 => repeat (first | (with_reducible first | exact HB.out | apply below_alloc | apply pw_below_drewN | apply below_drew1 | refine below_set ?_ (Aside0.out (by assumption))) | exact HB.out)); (case side2 => exact Kd.R_tight rfl HO_4.out); rintro e w38 ⟨rfl, hy0, hb, hkp⟩; refine ⟨_, rfl, ?_⟩; replace BK258 := Aside0.mk (blk_kept BK258.out hkp (fun hs_ => (fun e_ => (Kd.R_ne HO_4.out BK258.out (by decide)) e_) hs_)); replace BK259 := Aside0.mk (blk_kept BK259.out hkp (fun hs_ => (fun e_ => (Kd.R_ne HO_4.out BK259.out (by decide)) e_) hs_)); replace BK260 := Aside0.mk (blk_kept BK260.out hkp (fun hs_ => (fun e_ => (Kd.R_ne HO_4.out BK260.out (by decide)) e_) hs_)); replace HO266 := Aside0.mk (Kd.R_mono (ok' := fun k_ => some k_ ≠ (.slice Ao18 x4_1.length co18 : Value).ownBlock) (Kd.R_keptB (HO266.out) hkp (fun k_ hk_ hs_ => (hk_) hs_)) (fun k_ hk_ => hk_.1)); replace BK269 := Aside0.mk (blk_kept BK269.out hkp (fun hs_ => (fun e_ => (Kd.R_ne HO_4.out BK269.out (by decide)) e_) hs_)); replace HO_4 := Aside0.mk (Kd.R_reok rfl hy0 (fun k_ e_ => HO_4.out.1 k_ e_)); replace HB := Aside0.mk (hb); (try clear hb); (try clear hkp); (try clear hy0)))
     go_roundg k1
     case measure => have := HK1.out; omega
     case rel => exact ⟨(t271), (t270), (t267), (t268), (by first | rfl | (simp; done) | (simp [*]; done)), H', ⟨by have := HK1.out; omega⟩, ⟨by (with_reducible repeat (first | apply Kd.R_alloc | apply Kd.R_drewN | apply Kd.R_drew)); exact Kd.R_mono HO_4.out (fun _ hk => trivial)⟩, ⟨by (with_reducible repeat (first | refine blk_drewN ?_ _ | refine blk_drew ?_ | refine blk_alloc ?_ _)); exact BK258.out⟩, ⟨by (with_reducible repeat (first | refine blk_drewN ?_ _ | refine blk_drew ?_ | refine blk_alloc ?_ _)); exact BK259.out⟩, ⟨by (with_reducible repeat (first | refine blk_drewN ?_ _ | refine blk_drew ?_ | refine blk_alloc ?_ _)); exact BK260.out⟩, ⟨by repeat (first | (with_reducible first | exact HB.out | apply below_alloc | apply pw_below_drewN | apply below_drew1 | refine below_set ?_ (Aside0.out (by assumption))) | exact HB.out)⟩⟩
    ·rw [if_neg c16] at H
     have c16b0 : decide (t268 < x261002_1) = false := decide_eq_false c16
     clear c16
     replace H := Option.bind_eq_some_iff.mp H
     obtain ⟨⟨t272, t273⟩, A390, H⟩ := H
     (try dsimp only at H)
     have A39 := Aside0.mk A390
     clear A390
     have H' := Aside0.mk H
     clear H
     obtain ⟨Ao40, co40, eo40⟩ := Kd.R_slice HO_4.out
     subst eo40
     try go_wp2
     replace HO_4 := Aside0.mk (Kd.R_drew HO_4.out)
     replace BK258 := Aside0.mk (blk_drew BK258.out)
     replace BK259 := Aside0.mk (blk_drew BK259.out)
     replace BK260 := Aside0.mk (blk_drew BK260.out)
     replace HB := Aside0.mk (below_drew1 HB.out)
     refine start_ (n := 9) (S := fun w' => w'.cell? ⟨gb258, 0, none⟩ = some (.int .i64 a0_0) ∧ w'.cell? ⟨gb258, 1, none⟩ = some (.int .i64 a0_1) ∧ w'.cell? ⟨gb258, 2, none⟩ = some (.int .u32 a0_2)) (ds := []) #[false, false, false, false, false, false, false, false, false] (by kernel_rfl) rfl rfl ⟨bcA BK258 0 rfl, bcA BK258 1 rfl, bcA BK258 2 rfl⟩ (fun hHeld => ?_); refine with_tabW spec_l03Least.tab6 spec_l03Least.bits6 (fun HT_ HW_ => ?_)
     generalize wr.drew = w41 at HO_4 BK258 BK259 BK260 HB hHeld ⊢
     refine pure_ (i := 0) (N := some 24) (v := ?_) (a' := ?_) #[true, false, false, false, false, false, false, false, false] rfl rfl (any_of HT_.out (by kernel_rfl)) (fun _ _ _ h => h) (Or.inl ⟨by rfl, ?_⟩) ?_ ?_
     rotate_left;(intro w';go_simp;with_reducible rfl);rotate_left;(simp only [Act.put, psA, pzA, pnA, i64_w, i32_w];rfl)
     refine pure_ (i := 2) (N := some 26) (v := ?_) (a' := ?_) #[true, false, true, false, false, false, false, false, false] rfl rfl (any_of HT_.out (by kernel_rfl)) (fun _ _ _ h => h) (Or.inl ⟨by rfl, ?_⟩) ?_ ?_
     rotate_left;(intro w';go_simp;with_reducible rfl);rotate_left;(simp only [Act.put, psA, pzA, pnA, i64_w, i32_w];rfl)
     refine pure_ (i := 4) (N := some 28) (v := ?_) (a' := ?_) #[true, false, true, false, true, false, false, false, false] rfl rfl (any_of HT_.out (by kernel_rfl)) (fun _ _ _ h => h) (Or.inl ⟨by rfl, ?_⟩) ?_ ?_
     rotate_left;(intro w';go_simp;with_reducible rfl);rotate_left;(simp only [Act.put, psA, pzA, pnA, i64_w, i32_w];rfl)
     refine take_ (i := 1) (N := some 25) (v := ?_) (a' := ?_) #[true, true, true, false, true, false, false, false, false] rfl rfl (take_ofW HT_.out HW_.out (by kernel_rfl)) (fun _ _ _ h => h) (Or.inl ⟨by rfl, ?_⟩) hHeld ?_ ?_
     rotate_left;(rintro w' ⟨s0, s1, s2⟩;go_simp;with_reducible rfl);rotate_left;(simp only [Act.put, psA, pzA, pnA, i64_w, i32_w];rfl)
     refine take_ (i := 3) (N := some 27) (v := ?_) (a' := ?_) #[true, true, true, true, true, false, false, false, false] rfl rfl (take_ofW HT_.out HW_.out (by kernel_rfl)) (fun _ _ _ h => h) (Or.inl ⟨by rfl, ?_⟩) hHeld ?_ ?_
     rotate_left;(rintro w' ⟨s0, s1, s2⟩;go_simp;with_reducible rfl);rotate_left;(simp only [Act.put, psA, pzA, pnA, i64_w, i32_w];rfl)
     refine join_ (σ := Value × Nat) 1 #[true, true, true, true, true, true, true, true, false] (fun s_ => [(29, s_.1), (30, .agg #[.int .i64 t267, .int .u32 t268]), (6, .pointer (some ⟨s_.2, 0, none⟩))]) (fun s_ w' => (w'.cell? ⟨gb258, 0, none⟩ = some (.int .i64 a0_0) ∧ w'.cell? ⟨gb258, 1, none⟩ = some (.int .i64 a0_1) ∧ w'.cell? ⟨gb258, 2, none⟩ = some (.int .u32 a0_2)) ∧ (Kd.R (Kd.int .i64) 2 w' w.heap.size (fun k_ => some k_ ≠ (.slice Ao40 x4_1.length co40 : Value).ownBlock) s_.1 t264) ∧ (Kd.R (Kd.int .i64) 2 w' w.heap.size (fun k_ => some k_ ≠ (s_.1 : Value).ownBlock) (.slice Ao40 x4_1.length co40) x4_1) ∧ (w'.heap[gb258]? = some (.cells #[.int .i64 a0_0, .int .i64 a0_1, .int .u32 a0_2] 45 (0, 0))) ∧ (w'.heap[gb259]? = some (.cells #[.int .i64 0, .int .i64 0, .int .u32 0] 45 (0, 0))) ∧ (w'.heap[gb260]? = some (.cells #[.int .i64 a0_0, .int .i64 x261001_1, .int .u32 x261002_1] 45 (0, 0))) ∧ (w'.heap[s_.2]? = some (.cells #[.int .i64 0, .int .u32 0] 27 (0, 0))) ∧ (w.heap.size ≤ s_.2) ∧ (w.heap.size ≤ s_.2) ∧ (gb258 ≠ s_.2) ∧ (s_.2 ≠ gb258) ∧ (gb259 ≠ s_.2) ∧ (s_.2 ≠ gb259) ∧ (gb260 ≠ s_.2) ∧ (s_.2 ≠ gb260) ∧ (Below w.heap.size w w')) ?_ ?_
     rotate_left
     ·intro hCont
      refine two_ (i := 5) (j := 7) (Ni := some 29) (Nj := some 6) #[true, true, true, true, true, true, false, false, false] #[true, true, true, true, true, false, false, true, false] rfl rfl rfl rfl (two_of HT_.out (by kernel_rfl)) (by decide) (by decide) (fun K hK => ?_) (fun K hK => ?_)
      ·skip
       refine goes_ Try.func167 (by kernel_rfl) rfl #[.int .i64 a0_0, .slice Ao40 x4_1.length co40] (by rfl) rfl rfl (by first | rfl | (simp only [List.map_toArray, List.map_cons, List.map_nil, List.length_drop, List.length_take]; rfl)) ?_
       with_reducible refine (spec_l03Order.calls k1 a0_0 _ _ x4_1 t264 _ ?side1 ?side2 A14.out).mono ?_
       (case side1 => repeat (first | exact (Kd.R_reads' HO_4.out).2.2 | (with_reducible refine Kd.C_alloc ?_ _) | (with_reducible refine Kd.C_drewN ?_ _) | (with_reducible refine Kd.C_drew ?_)))
       (case side2 => exact (Kd.R_reads' HO_4.out).2.1)
       rintro e w42 ⟨v265, rfl, ho0, hb⟩
       refine ⟨_, rfl, ?_⟩
       have HO266 := Aside0.mk (Kd.R_lower (Kd.R_new' ho0 (Kd.R_lt (by (with_reducible repeat (first | apply Kd.R_alloc | apply Kd.R_drewN | apply Kd.R_drew)); exact HO_4.out))) (below_size HB.out))
       replace HO_4 := Aside0.mk (Kd.R_elder' (by (with_reducible repeat (first | apply Kd.R_alloc | apply Kd.R_drewN | apply Kd.R_drew)); exact HO_4.out) (Kd.R_base ho0) hb)
       replace BK258 := bkB BK258 hb
       replace BK259 := bkB BK259 hb
       replace BK260 := bkB BK260 hb
       replace HB := hbB HB hb
       (try clear hb)
       (try clear hk)
       (try clear ho0)
       obtain ⟨Ao43, co43, eo43⟩ := Kd.R_slice HO266.out
       (first | subst eo43 | (injection eo43 with f1_ f2_ f3_; have f4_ := f1_.symm; have f5_ := f3_.symm; clear f1_ f2_ f3_; subst f4_; subst f5_))
       refine hK.out _ _ ⟨bcA BK258 0 rfl, bcA BK258 1 rfl, bcA BK258 2 rfl⟩ (fun hHeld => ?_)
       clear hK K
       refine norm_ (a' := ?_) ?_ ?_
       rotate_left;(show Act.put _ (some 29) _ = _;simp only [Act.put, psA, pzA, pnA, i64_w, i32_w];rfl)
       refine two_ (i := 6) (j := 7) (Ni := some 30) (Nj := some 6) #[true, true, true, true, true, true, true, false, false] #[true, true, true, true, true, true, false, true, false] rfl rfl rfl rfl (two_of HT_.out (by kernel_rfl)) (by decide) (by decide) (fun K hK => ?_) (fun K hK => ?_)
       ·skip
        refine goes_ Try.func61 (by kernel_rfl) rfl #[.agg #[.int .i64 a0_1, .int .u32 a0_2], .slice Ao43 t264.length co43] (by rfl) rfl rfl (by first | rfl | (simp only [List.map_toArray, List.map_cons, List.map_nil, List.length_drop, List.length_take]; rfl)) ?_
        with_reducible refine (spec_l01On.calls k1 a0_1 a0_2 _ _ t264 t267 t268 _ ?side1 ?side2 A15.out).mono ?_
        (case side1 => repeat (first | exact (Kd.R_reads' HO266.out).2.2 | (with_reducible refine Kd.C_alloc ?_ _) | (with_reducible refine Kd.C_drewN ?_ _) | (with_reducible refine Kd.C_drew ?_)))
        (case side2 => exact (Kd.R_reads' HO266.out).2.1)
        rintro e w44 ⟨rfl, hb⟩
        refine ⟨_, rfl, ?_⟩
        replace HO_4 := Kd.R_b HO_4 hb
        replace HO266 := Kd.R_b HO266 hb
        replace BK258 := bkB BK258 hb
        replace BK259 := bkB BK259 hb
        replace BK260 := bkB BK260 hb
        replace HB := hbB HB hb
        (try clear hb)
        (try clear hk)
        refine hK.out _ _ ⟨bcA BK258 0 rfl, bcA BK258 1 rfl, bcA BK258 2 rfl⟩ (fun hHeld => ?_)
        clear hK K
        refine norm_ (a' := ?_) ?_ ?_
        rotate_left;(show Act.put _ (some 30) _ = _;simp only [Act.put, psA, pzA, pnA, i64_w, i32_w];rfl)
        refine one_ (i := 7) (N := some 6) #[true, true, true, true, true, true, true, true, false] rfl rfl (one_of HT_.out (by kernel_rfl)) (by decide) (fun K hK => ?_)
        refine box_step ?hg (N := 6) ?hd (cs := #[.int .i64 0, .int .u32 0]) (t := 27) ?hr ?_; (case hd => rfl); (case hg => rfl); (case hr => first | (go_simp; done) | (go_simp; rfl))
        intro gb269 hg w45 hbox hb
        replace HO_4 := Kd.R_b HO_4 hb
        replace HO266 := Kd.R_b HO266 hb
        have BK269 := Aside0.mk (hbox)
        have GW269 := geA HB hg
        replace HB := hbB HB hb
        have GE269 := GW269
        have NB258_269 := nbA hg BK258
        replace BK258 := bkB BK258 hb
        have NB269_258 := neA NB258_269
        have NB259_269 := nbA hg BK259
        replace BK259 := bkB BK259 hb
        have NB269_259 := neA NB259_269
        have NB260_269 := nbA hg BK260
        replace BK260 := bkB BK260 hb
        have NB269_260 := neA NB260_269
        clear hb hbox hg
        refine hK.out _ _ ⟨bcA BK258 0 rfl, bcA BK258 1 rfl, bcA BK258 2 rfl⟩ (fun hHeld => ?_)
        clear hK K
        refine norm_ (a' := ?_) ?_ ?_
        rotate_left;(show Act.put _ (some 6) _ = _;simp only [Act.put, psA, pzA, pnA, i64_w, i32_w];rfl)
        exact norm_ (by simp only [putAll, Act.put, psA, pzA, pnA]) (hCont (.slice Ao43 t264.length co43, gb269) _ ⟨hHeld, (by (with_reducible repeat (first | apply Kd.R_alloc | apply Kd.R_drewN | apply Kd.R_drew)); exact Kd.R_mono HO266.out (fun _ hk => hk.2)), (by (with_reducible repeat (first | apply Kd.R_alloc | apply Kd.R_drewN | apply Kd.R_drew)); exact Kd.R_mono HO_4.out (fun _ hk => hk.2)), BK258.out, BK259.out, BK260.out, BK269.out, GW269.out, GE269.out, NB258_269.out, NB269_258.out, NB259_269.out, NB269_259.out, NB260_269.out, NB269_260.out, HB.out⟩)
       ·skip
        refine box_step ?hg (N := 6) ?hd (cs := #[.int .i64 0, .int .u32 0]) (t := 27) ?hr ?_; (case hd => rfl); (case hg => rfl); (case hr => first | (go_simp; done) | (go_simp; rfl))
        intro gb269 hg w43 hbox hb
        replace HO_4 := Kd.R_b HO_4 hb
        replace HO266 := Kd.R_b HO266 hb
        have BK269 := Aside0.mk (hbox)
        have GW269 := geA HB hg
        replace HB := hbB HB hb
        have GE269 := GW269
        have NB258_269 := nbA hg BK258
        replace BK258 := bkB BK258 hb
        have NB269_258 := neA NB258_269
        have NB259_269 := nbA hg BK259
        replace BK259 := bkB BK259 hb
        have NB269_259 := neA NB259_269
        have NB260_269 := nbA hg BK260
        replace BK260 := bkB BK260 hb
        have NB269_260 := neA NB260_269
        clear hb hbox hg
        obtain ⟨Ao44, co44, eo44⟩ := Kd.R_slice HO266.out
        (first | subst eo44 | (injection eo44 with f1_ f2_ f3_; have f4_ := f1_.symm; have f5_ := f3_.symm; clear f1_ f2_ f3_; subst f4_; subst f5_))
        refine hK.out _ _ ⟨bcA BK258 0 rfl, bcA BK258 1 rfl, bcA BK258 2 rfl⟩ (fun hHeld => ?_)
        clear hK K
        refine norm_ (a' := ?_) ?_ ?_
        rotate_left;(show Act.put _ (some 6) _ = _;simp only [Act.put, psA, pzA, pnA, i64_w, i32_w];rfl)
        refine one_ (i := 6) (N := some 30) #[true, true, true, true, true, true, true, true, false] rfl rfl (one_of HT_.out (by kernel_rfl)) (by decide) (fun K hK => ?_)
        refine goes_ Try.func61 (by kernel_rfl) rfl #[.agg #[.int .i64 a0_1, .int .u32 a0_2], .slice Ao44 t264.length co44] (by rfl) rfl rfl (by first | rfl | (simp only [List.map_toArray, List.map_cons, List.map_nil, List.length_drop, List.length_take]; rfl)) ?_
        with_reducible refine (spec_l01On.calls k1 a0_1 a0_2 _ _ t264 t267 t268 _ ?side1 ?side2 A15.out).mono ?_
        (case side1 => repeat (first | exact (Kd.R_reads' HO266.out).2.2 | (with_reducible refine Kd.C_alloc ?_ _) | (with_reducible refine Kd.C_drewN ?_ _) | (with_reducible refine Kd.C_drew ?_)))
        (case side2 => exact (Kd.R_reads' HO266.out).2.1)
        rintro e w45 ⟨rfl, hb⟩
        refine ⟨_, rfl, ?_⟩
        replace HO_4 := Kd.R_b HO_4 hb
        replace HO266 := Kd.R_b HO266 hb
        replace BK258 := bkB BK258 hb
        replace BK259 := bkB BK259 hb
        replace BK260 := bkB BK260 hb
        replace BK269 := bkB BK269 hb
        replace HB := hbB HB hb
        (try clear hb)
        (try clear hk)
        refine hK.out _ _ ⟨bcA BK258 0 rfl, bcA BK258 1 rfl, bcA BK258 2 rfl⟩ (fun hHeld => ?_)
        clear hK K
        refine norm_ (a' := ?_) ?_ ?_
        rotate_left;(show Act.put _ (some 30) _ = _;simp only [Act.put, psA, pzA, pnA, i64_w, i32_w];rfl)
        exact norm_ (by simp only [putAll, Act.put, psA, pzA, pnA]) (hCont (.slice Ao44 t264.length co44, gb269) _ ⟨hHeld, (by (with_reducible repeat (first | apply Kd.R_alloc | apply Kd.R_drewN | apply Kd.R_drew)); exact Kd.R_mono HO266.out (fun _ hk => hk.2)), (by (with_reducible repeat (first | apply Kd.R_alloc | apply Kd.R_drewN | apply Kd.R_drew)); exact Kd.R_mono HO_4.out (fun _ hk => hk.2)), BK258.out, BK259.out, BK260.out, BK269.out, GW269.out, GE269.out, NB258_269.out, NB269_258.out, NB259_269.out, NB269_259.out, NB260_269.out, NB269_260.out, HB.out⟩)
      ·skip
       refine box_step ?hg (N := 6) ?hd (cs := #[.int .i64 0, .int .u32 0]) (t := 27) ?hr ?_; (case hd => rfl); (case hg => rfl); (case hr => first | (go_simp; done) | (go_simp; rfl))
       intro gb269 hg w42 hbox hb
       replace HO_4 := Kd.R_b HO_4 hb
       have BK269 := Aside0.mk (hbox)
       have GW269 := geA HB hg
       replace HB := hbB HB hb
       have GE269 := GW269
       have NB258_269 := nbA hg BK258
       replace BK258 := bkB BK258 hb
       have NB269_258 := neA NB258_269
       have NB259_269 := nbA hg BK259
       replace BK259 := bkB BK259 hb
       have NB269_259 := neA NB259_269
       have NB260_269 := nbA hg BK260
       replace BK260 := bkB BK260 hb
       have NB269_260 := neA NB260_269
       clear hb hbox hg
       refine hK.out _ _ ⟨bcA BK258 0 rfl, bcA BK258 1 rfl, bcA BK258 2 rfl⟩ (fun hHeld => ?_)
       clear hK K
       refine norm_ (a' := ?_) ?_ ?_
       rotate_left;(show Act.put _ (some 6) _ = _;simp only [Act.put, psA, pzA, pnA, i64_w, i32_w];rfl)
       refine one_ (i := 5) (N := some 29) #[true, true, true, true, true, true, false, true, false] rfl rfl (one_of HT_.out (by kernel_rfl)) (by decide) (fun K hK => ?_)
       refine goes_ Try.func167 (by kernel_rfl) rfl #[.int .i64 a0_0, .slice Ao40 x4_1.length co40] (by rfl) rfl rfl (by first | rfl | (simp only [List.map_toArray, List.map_cons, List.map_nil, List.length_drop, List.length_take]; rfl)) ?_
       with_reducible refine (spec_l03Order.calls k1 a0_0 _ _ x4_1 t264 _ ?side1 ?side2 A14.out).mono ?_
       (case side1 => repeat (first | exact (Kd.R_reads' HO_4.out).2.2 | (with_reducible refine Kd.C_alloc ?_ _) | (with_reducible refine Kd.C_drewN ?_ _) | (with_reducible refine Kd.C_drew ?_)))
       (case side2 => exact (Kd.R_reads' HO_4.out).2.1)
       rintro e w43 ⟨v265, rfl, ho0, hb⟩
       refine ⟨_, rfl, ?_⟩
       have HO266 := Aside0.mk (Kd.R_lower (Kd.R_new' ho0 (Kd.R_lt (by (with_reducible repeat (first | apply Kd.R_alloc | apply Kd.R_drewN | apply Kd.R_drew)); exact HO_4.out))) (below_size HB.out))
       replace HO_4 := Aside0.mk (Kd.R_elder' (by (with_reducible repeat (first | apply Kd.R_alloc | apply Kd.R_drewN | apply Kd.R_drew)); exact HO_4.out) (Kd.R_base ho0) hb)
       replace BK258 := bkB BK258 hb
       replace BK259 := bkB BK259 hb
       replace BK260 := bkB BK260 hb
       replace BK269 := bkB BK269 hb
       replace HB := hbB HB hb
       (try clear hb)
       (try clear hk)
       (try clear ho0)
       obtain ⟨Ao44, co44, eo44⟩ := Kd.R_slice HO266.out
       (first | subst eo44 | (injection eo44 with f1_ f2_ f3_; have f4_ := f1_.symm; have f5_ := f3_.symm; clear f1_ f2_ f3_; subst f4_; subst f5_))
       refine hK.out _ _ ⟨bcA BK258 0 rfl, bcA BK258 1 rfl, bcA BK258 2 rfl⟩ (fun hHeld => ?_)
       clear hK K
       refine norm_ (a' := ?_) ?_ ?_
       rotate_left;(show Act.put _ (some 29) _ = _;simp only [Act.put, psA, pzA, pnA, i64_w, i32_w];rfl)
       refine one_ (i := 6) (N := some 30) #[true, true, true, true, true, true, true, true, false] rfl rfl (one_of HT_.out (by kernel_rfl)) (by decide) (fun K hK => ?_)
       refine goes_ Try.func61 (by kernel_rfl) rfl #[.agg #[.int .i64 a0_1, .int .u32 a0_2], .slice Ao44 t264.length co44] (by rfl) rfl rfl (by first | rfl | (simp only [List.map_toArray, List.map_cons, List.map_nil, List.length_drop, List.length_take]; rfl)) ?_
       with_reducible refine (spec_l01On.calls k1 a0_1 a0_2 _ _ t264 t267 t268 _ ?side1 ?side2 A15.out).mono ?_
       (case side1 => repeat (first | exact (Kd.R_reads' HO266.out).2.2 | (with_reducible refine Kd.C_alloc ?_ _) | (with_reducible refine Kd.C_drewN ?_ _) | (with_reducible refine Kd.C_drew ?_)))
       (case side2 => exact (Kd.R_reads' HO266.out).2.1)
       rintro e w45 ⟨rfl, hb⟩
       refine ⟨_, rfl, ?_⟩
       replace HO_4 := Kd.R_b HO_4 hb
       replace HO266 := Kd.R_b HO266 hb
       replace BK258 := bkB BK258 hb
       replace BK259 := bkB BK259 hb
       replace BK260 := bkB BK260 hb
       replace BK269 := bkB BK269 hb
       replace HB := hbB HB hb
       (try clear hb)
       (try clear hk)
       refine hK.out _ _ ⟨bcA BK258 0 rfl, bcA BK258 1 rfl, bcA BK258 2 rfl⟩ (fun hHeld => ?_)
       clear hK K
       refine norm_ (a' := ?_) ?_ ?_
       rotate_left;(show Act.put _ (some 30) _ = _;simp only [Act.put, psA, pzA, pnA, i64_w, i32_w];rfl)
       exact norm_ (by simp only [putAll, Act.put, psA, pzA, pnA]) (hCont (.slice Ao44 t264.length co44, gb269) _ ⟨hHeld, (by (with_reducible repeat (first | apply Kd.R_alloc | apply Kd.R_drewN | apply Kd.R_drew)); exact Kd.R_mono HO266.out (fun _ hk => hk.2)), (by (with_reducible repeat (first | apply Kd.R_alloc | apply Kd.R_drewN | apply Kd.R_drew)); exact Kd.R_mono HO_4.out (fun _ hk => hk.2)), BK258.out, BK259.out, BK260.out, BK269.out, GW269.out, GE269.out, NB258_269.out, NB269_258.out, NB259_269.out, NB269_259.out, NB260_269.out, NB269_260.out, HB.out⟩)
     rintro ⟨v265, gb269⟩ w46 ⟨hS_, h0_, h1_, h2_, h3_, h4_, h5_, h6_, h7_, h8_, h9_, h10_, h11_, h12_, h13_, h14_⟩
     have n0_ : Aside0 (Kd.R (Kd.int .i64) 2 w46 w.heap.size (fun k_ => some k_ ≠ (.slice Ao40 x4_1.length co40 : Value).ownBlock) v265 t264) := ⟨h0_⟩
     have n1_ : Aside0 (Kd.R (Kd.int .i64) 2 w46 w.heap.size (fun k_ => some k_ ≠ (v265 : Value).ownBlock) (.slice Ao40 x4_1.length co40) x4_1) := ⟨h1_⟩
     have n2_ : Aside0 (w46.heap[gb258]? = some (.cells #[.int .i64 a0_0, .int .i64 a0_1, .int .u32 a0_2] 45 (0, 0))) := ⟨h2_⟩
     have n3_ : Aside0 (w46.heap[gb259]? = some (.cells #[.int .i64 0, .int .i64 0, .int .u32 0] 45 (0, 0))) := ⟨h3_⟩
     have n4_ : Aside0 (w46.heap[gb260]? = some (.cells #[.int .i64 a0_0, .int .i64 x261001_1, .int .u32 x261002_1] 45 (0, 0))) := ⟨h4_⟩
     have n5_ : Aside0 (w46.heap[gb269]? = some (.cells #[.int .i64 0, .int .u32 0] 27 (0, 0))) := ⟨h5_⟩
     have n6_ : Aside0 (w.heap.size ≤ gb269) := ⟨h6_⟩
     have n7_ : Aside0 (w.heap.size ≤ gb269) := ⟨h7_⟩
     have n8_ : Aside0 (gb258 ≠ gb269) := ⟨h8_⟩
     have n9_ : Aside0 (gb269 ≠ gb258) := ⟨h9_⟩
     have n10_ : Aside0 (gb259 ≠ gb269) := ⟨h10_⟩
     have n11_ : Aside0 (gb269 ≠ gb259) := ⟨h11_⟩
     have n12_ : Aside0 (gb260 ≠ gb269) := ⟨h12_⟩
     have n13_ : Aside0 (gb269 ≠ gb260) := ⟨h13_⟩
     have n14_ : Aside0 (Below w.heap.size w w46) := ⟨h14_⟩
     clear HO_4 BK258 BK259 BK260 HB
     clear h0_ h1_ h2_ h3_ h4_ h5_ h6_ h7_ h8_ h9_ h10_ h11_ h12_ h13_ h14_
     have HO266 := n0_
     have HO_4 := n1_
     have BK258 := n2_
     have BK259 := n3_
     have BK260 := n4_
     have BK269 := n5_
     have GW269 := n6_
     have GE269 := n7_
     have NB258_269 := n8_
     have NB269_258 := n9_
     have NB259_269 := n10_
     have NB269_259 := n11_
     have NB260_269 := n12_
     have NB269_260 := n13_
     have HB := n14_
     clear n0_ n1_ n2_ n3_ n4_ n5_ n6_ n7_ n8_ n9_ n10_ n11_ n12_ n13_ n14_
     have hHeld : w46.cell? ⟨gb258, 0, none⟩ = some (.int .i64 a0_0) ∧ w46.cell? ⟨gb258, 1, none⟩ = some (.int .i64 a0_1) ∧ w46.cell? ⟨gb258, 2, none⟩ = some (.int .u32 a0_2) := hS_
     refine norm_ (a' := ?_) ?_ ?_
     rotate_left;(simp only [putAll, Act.put, psA, pzA, pnA];rfl)
     refine one_ (i := 8) (N := none) #[true, true, true, true, true, true, true, true, true] rfl rfl (one_of HT_.out (by kernel_rfl)) (by decide) (fun K hK => ?_)
     have hs47 : w46.cell? ⟨gb269, 0, none⟩ = some (.int .i64 0) := bcA BK269 0 rfl
     have hfs47 := blk_frozen BK269.out 0
     have hns47_0 := NB258_269.out
     have hns47_1 := NB259_269.out
     have hns47_2 := NB260_269.out
     have hms47_0 := NB269_258.out
     have hms47_1 := NB269_259.out
     have hms47_2 := NB269_260.out
     have hs48 : w46.cell? ⟨gb269, 1, none⟩ = some (.int .u32 0) := bcA BK269 1 rfl
     have hfs48 := blk_frozen BK269.out 1
     have hns48_0 := NB258_269.out
     have hns48_1 := NB259_269.out
     have hns48_2 := NB260_269.out
     have hms48_0 := NB269_258.out
     have hms48_1 := NB269_259.out
     have hms48_2 := NB269_260.out
     refine skip_ (w1 := ?_) (by rfl) rfl ?_ ?_
     rotate_left
     ·go_simp
      rfl
     refine hK.out _ _ ⟨((cell_far (p := ⟨gb269, _, none⟩) NB258_269.out _).trans (((cell_far (p := ⟨gb269, _, none⟩) NB258_269.out _).trans (hHeld.1)))), ((cell_far (p := ⟨gb269, _, none⟩) NB258_269.out _).trans (((cell_far (p := ⟨gb269, _, none⟩) NB258_269.out _).trans (hHeld.2.1)))), ((cell_far (p := ⟨gb269, _, none⟩) NB258_269.out _).trans (((cell_far (p := ⟨gb269, _, none⟩) NB258_269.out _).trans (hHeld.2.2))))⟩ (fun hHeld => ?_)
     clear hK K
     refine done_ (done_of HT_.out (by kernel_rfl)) ?_
     have n0_ : Aside0 (Kd.R (Kd.int .i64) 2 ((w46.setCell ⟨gb269, 0, none⟩ (.int .i64 t267)).setCell ⟨gb269, 1, none⟩ (.int .u32 t268)) w.heap.size (fun k_ => some k_ ≠ (v265 : Value).ownBlock) (.slice Ao40 x4_1.length co40) x4_1) := ⟨by (with_reducible repeat (first | apply Kd.R_alloc | apply Kd.R_drewN | apply Kd.R_drew)); exact Kd.R_mono (Kd.R_far (p := ⟨gb269, 1, none⟩) (Kd.R_far (p := ⟨gb269, 0, none⟩) (Kd.R_types HO_4.out BK269.out (by decide)) (fun _ hk => hk.2) (.int .i64 t267)) (fun _ hk => hk.2) (.int .u32 t268)) (fun _ hk => hk.1)⟩
     have n1_ : Aside0 (Kd.R (Kd.int .i64) 2 ((w46.setCell ⟨gb269, 0, none⟩ (.int .i64 t267)).setCell ⟨gb269, 1, none⟩ (.int .u32 t268)) w.heap.size (fun k_ => some k_ ≠ (.slice Ao40 x4_1.length co40 : Value).ownBlock) v265 t264) := ⟨by (with_reducible repeat (first | apply Kd.R_alloc | apply Kd.R_drewN | apply Kd.R_drew)); exact Kd.R_mono (Kd.R_far (p := ⟨gb269, 1, none⟩) (Kd.R_far (p := ⟨gb269, 0, none⟩) (Kd.R_types HO266.out BK269.out (by decide)) (fun _ hk => hk.2) (.int .i64 t267)) (fun _ hk => hk.2) (.int .u32 t268)) (fun _ hk => hk.1)⟩
     have n2_ : Aside0 (((w46.setCell ⟨gb269, 0, none⟩ (.int .i64 t267)).setCell ⟨gb269, 1, none⟩ (.int .u32 t268)).heap[gb258]? = some (.cells #[.int .i64 a0_0, .int .i64 a0_1, .int .u32 a0_2] 45 (0, 0))) := ⟨by (with_reducible repeat (first | refine blk_drewN ?_ _ | refine blk_drew ?_ | refine blk_alloc ?_ _)); refine blk_far ?_ NB258_269.out _; (with_reducible repeat (first | refine blk_drewN ?_ _ | refine blk_drew ?_ | refine blk_alloc ?_ _)); refine blk_far ?_ NB258_269.out _; (with_reducible repeat (first | refine blk_drewN ?_ _ | refine blk_drew ?_ | refine blk_alloc ?_ _)); exact BK258.out⟩
     have n3_ : Aside0 (((w46.setCell ⟨gb269, 0, none⟩ (.int .i64 t267)).setCell ⟨gb269, 1, none⟩ (.int .u32 t268)).heap[gb259]? = some (.cells #[.int .i64 0, .int .i64 0, .int .u32 0] 45 (0, 0))) := ⟨by (with_reducible repeat (first | refine blk_drewN ?_ _ | refine blk_drew ?_ | refine blk_alloc ?_ _)); refine blk_far ?_ NB259_269.out _; (with_reducible repeat (first | refine blk_drewN ?_ _ | refine blk_drew ?_ | refine blk_alloc ?_ _)); refine blk_far ?_ NB259_269.out _; (with_reducible repeat (first | refine blk_drewN ?_ _ | refine blk_drew ?_ | refine blk_alloc ?_ _)); exact BK259.out⟩
     have n4_ : Aside0 (((w46.setCell ⟨gb269, 0, none⟩ (.int .i64 t267)).setCell ⟨gb269, 1, none⟩ (.int .u32 t268)).heap[gb260]? = some (.cells #[.int .i64 a0_0, .int .i64 x261001_1, .int .u32 x261002_1] 45 (0, 0))) := ⟨by (with_reducible repeat (first | refine blk_drewN ?_ _ | refine blk_drew ?_ | refine blk_alloc ?_ _)); refine blk_far ?_ NB260_269.out _; (with_reducible repeat (first | refine blk_drewN ?_ _ | refine blk_drew ?_ | refine blk_alloc ?_ _)); refine blk_far ?_ NB260_269.out _; (with_reducible repeat (first | refine blk_drewN ?_ _ | refine blk_drew ?_ | refine blk_alloc ?_ _)); exact BK260.out⟩
     have n5_ : Aside0 (((w46.setCell ⟨gb269, 0, none⟩ (.int .i64 t267)).setCell ⟨gb269, 1, none⟩ (.int .u32 t268)).heap[gb269]? = some (.cells #[.int .i64 t267, .int .u32 t268] 27 (0, 0))) := ⟨by (with_reducible repeat (first | refine blk_drewN ?_ _ | refine blk_drew ?_ | refine blk_alloc ?_ _)); refine blk_put (cs := #[.int .i64 t267, .int .u32 0]) ?_ 1 _ rfl; (with_reducible repeat (first | refine blk_drewN ?_ _ | refine blk_drew ?_ | refine blk_alloc ?_ _)); refine blk_put (cs := #[.int .i64 0, .int .u32 0]) ?_ 0 _ rfl; (with_reducible repeat (first | refine blk_drewN ?_ _ | refine blk_drew ?_ | refine blk_alloc ?_ _)); exact BK269.out⟩
     have n6_ : Aside0 (Below w.heap.size w ((w46.setCell ⟨gb269, 0, none⟩ (.int .i64 t267)).setCell ⟨gb269, 1, none⟩ (.int .u32 t268))) := ⟨by repeat (first | (with_reducible first | exact HB.out | apply below_alloc | apply pw_below_drewN | apply below_drew1 | refine below_set ?_ (Aside0.out (by assumption))) | exact HB.out)⟩
     (try clear HO_4)
     (try clear HO266)
     (try clear BK258)
     (try clear BK259)
     (try clear BK260)
     (try clear BK269)
     (try clear HB)
     generalize ((w46.setCell ⟨gb269, 0, none⟩ (.int .i64 t267)).setCell ⟨gb269, 1, none⟩ (.int .u32 t268)) = w49 at n0_ n1_ n2_ n3_ n4_ n5_ n6_ ⊢
     have HO_4 := n0_
     have HO266 := n1_
     have BK258 := n2_
     have BK259 := n3_
     have BK260 := n4_
     have BK269 := n5_
     have HB := n6_
     clear n0_ n1_ n2_ n3_ n4_ n5_ n6_
     have hnb50 := NB269_258.out
     have hnc50 := NB258_269.out
     have hnb51 := NB269_259.out
     have hnc51 := NB259_269.out
     have hnb52 := NB269_260.out
     have hnc52 := NB260_269.out
     have hcz53_0 : w49.cell? ⟨gb269, 0, none⟩ = some (.int .i64 t267) := bcA BK269 0 rfl
     have hcz53_1 : w49.cell? ⟨gb269, 1, none⟩ = some (.int .u32 t268) := bcA BK269 1 rfl
     have hfz53_0 := blk_frozen BK269.out 0
     have hfz53_1 := blk_frozen BK269.out 1
     have hnb54 := NB260_258.out
     have hnc54 := NB258_260.out
     have hnb55 := NB260_259.out
     have hnc55 := NB259_260.out
     have hcz56_0 : w49.cell? ⟨gb260, 0, none⟩ = some (.int .i64 a0_0) := bcA BK260 0 rfl
     have hcz56_1 : w49.cell? ⟨gb260, 1, none⟩ = some (.int .i64 x261001_1) := bcA BK260 1 rfl
     have hcz56_2 : w49.cell? ⟨gb260, 2, none⟩ = some (.int .u32 x261002_1) := bcA BK260 2 rfl
     have hfz56_0 := blk_frozen BK260.out 0
     have hfz56_1 := blk_frozen BK260.out 1
     have hfz56_2 := blk_frozen BK260.out 2
     have hnb57 := NB258_259.out
     have hnc57 := NB259_258.out
     have hcz58_0 : w49.cell? ⟨gb258, 0, none⟩ = some (.int .i64 a0_0) := bcA BK258 0 rfl
     have hcz58_1 : w49.cell? ⟨gb258, 1, none⟩ = some (.int .i64 a0_1) := bcA BK258 1 rfl
     have hcz58_2 : w49.cell? ⟨gb258, 2, none⟩ = some (.int .u32 a0_2) := bcA BK258 2 rfl
     have hfz58_0 := blk_frozen BK258.out 0
     have hfz58_1 := blk_frozen BK258.out 1
     have hfz58_2 := blk_frozen BK258.out 2
     try go_wp2_with (first | ((with_reducible refine gate_callee (f := 94) rfl ?_); refine goesL_ (some 23) rfl rfl Try.func94 (by kernel_rfl) rfl #[.slice Ao40 x4_1.length co40, .int .i64 (wrap64 (a0_1 - a0_0))] rfl (by (try simp only [maA, mbA, mcA]); first | done | rfl | (simp only [List.length_drop, List.length_take]; rfl)) ?_; (with_reducible refine (spec_l01Next.calls k1 (fun k_ => some k_ = (.slice Ao40 x4_1.length co40 : Value).ownBlock) (.slice Ao40 x4_1.length co40) x4_1 (wrap64 (a0_1 - a0_0)) t272 t273 w _ ?side1 ?side2 A39.out).mono ?_); (case side1 => repeat (first | (with_reducible first | exact HB.out | apply below_alloc | apply pw_below_drewN | apply below_drew1 | refine below_set ?_ (Aside0.out (by assumption))) | exact HB.out)); (case side2 => exact Kd.R_tight rfl HO_4.out); rintro e w59 ⟨rfl, hy0, hb, hkp⟩; refine ⟨_, rfl, ?_⟩; replace BK258 := Aside0.mk (blk_kept BK258.out hkp (fun hs_ => (fun e_ => (Kd.R_ne HO_4.out BK258.out (by decide)) e_) hs_)); replace BK259 := Aside0.mk (blk_kept BK259.out hkp (fun hs_ => (fun e_ => (Kd.R_ne HO_4.out BK259.out (by decide)) e_) hs_)); replace BK260 := Aside0.mk (blk_kept BK260.out hkp (fun hs_ => (fun e_ => (Kd.R_ne HO_4.out BK260.out (by decide)) e_) hs_)); replace HO266 := Aside0.mk (Kd.R_mono (ok' := fun k_ => some k_ ≠ (.slice Ao40 x4_1.length co40 : Value).ownBlock) (Kd.R_keptB (HO266.out) hkp (fun k_ hk_ hs_ => (hk_) hs_)) (fun k_ hk_ => hk_.1)); replace BK269 := Aside0.mk (blk_kept BK269.out hkp (fun hs_ => (fun e_ => (Kd.R_ne HO_4.out BK269.out (by decide)) e_) hs_)); replace HO_4 := Aside0.mk (Kd.R_reok rfl hy0 (fun k_ e_ => HO_4.out.1 k_ e_)); replace HB := Aside0.mk (hb); (try clear hb); (try clear hkp); (try clear hy0)))
     go_roundg k1
     case measure => have := HK1.out; omega
     case rel => exact ⟨(t273), (t272), (x261001_1), (x261002_1), (by first | rfl | (simp; done) | (simp [*]; done)), H', ⟨by have := HK1.out; omega⟩, ⟨by (with_reducible repeat (first | apply Kd.R_alloc | apply Kd.R_drewN | apply Kd.R_drew)); exact Kd.R_mono HO_4.out (fun _ hk => trivial)⟩, ⟨by (with_reducible repeat (first | refine blk_drewN ?_ _ | refine blk_drew ?_ | refine blk_alloc ?_ _)); exact BK258.out⟩, ⟨by (with_reducible repeat (first | refine blk_drewN ?_ _ | refine blk_drew ?_ | refine blk_alloc ?_ _)); exact BK259.out⟩, ⟨by (with_reducible repeat (first | refine blk_drewN ?_ _ | refine blk_drew ?_ | refine blk_alloc ?_ _)); exact BK260.out⟩, ⟨by repeat (first | (with_reducible first | exact HB.out | apply below_alloc | apply pw_below_drewN | apply below_drew1 | refine below_set ?_ (Aside0.out (by assumption))) | exact HB.out)⟩⟩
   ·replace c13 := Bool.eq_false_iff.mpr c13
    subst c13
    rw [if_neg (show ¬ (false = true) by decide)] at H
    simp only [Option.some.injEq, Prod.mk.injEq] at H
    obtain ⟨rfl, rfl, rfl⟩ := H
    have hnb60 := NB260_258.out
    have hnc60 := NB258_260.out
    have hnb61 := NB260_259.out
    have hnc61 := NB259_260.out
    have hcz62_0 : wr.cell? ⟨gb260, 0, none⟩ = some (.int .i64 a0_0) := bcA BK260 0 rfl
    have hcz62_1 : wr.cell? ⟨gb260, 1, none⟩ = some (.int .i64 x261001_1) := bcA BK260 1 rfl
    have hcz62_2 : wr.cell? ⟨gb260, 2, none⟩ = some (.int .u32 x261002_1) := bcA BK260 2 rfl
    have hfz62_0 := blk_frozen BK260.out 0
    have hfz62_1 := blk_frozen BK260.out 1
    have hfz62_2 := blk_frozen BK260.out 2
    have hnb63 := NB259_258.out
    have hnc63 := NB258_259.out
    have hcz64_0 : wr.cell? ⟨gb259, 0, none⟩ = some (.int .i64 0) := bcA BK259 0 rfl
    have hcz64_1 : wr.cell? ⟨gb259, 1, none⟩ = some (.int .i64 0) := bcA BK259 1 rfl
    have hcz64_2 : wr.cell? ⟨gb259, 2, none⟩ = some (.int .u32 0) := bcA BK259 2 rfl
    have hfz64_0 := blk_frozen BK259.out 0
    have hfz64_1 := blk_frozen BK259.out 1
    have hfz64_2 := blk_frozen BK259.out 2
    go_wp2
    refine bodyPost_ret (results_cell_row rfl _ _ gb259 45 #[.int .i64 a0_0, .int .i64 x261001_1, .int .u32 x261002_1] (0, 0) _ rfl (by (with_reducible repeat (first | refine blk_drewN ?_ _ | refine blk_drew ?_ | refine blk_alloc ?_ _)); refine blk_put (cs := #[.int .i64 a0_0, .int .i64 x261001_1, .int .u32 0]) ?_ 2 _ rfl; (with_reducible repeat (first | refine blk_drewN ?_ _ | refine blk_drew ?_ | refine blk_alloc ?_ _)); refine blk_put (cs := #[.int .i64 a0_0, .int .i64 0, .int .u32 0]) ?_ 1 _ rfl; (with_reducible repeat (first | refine blk_drewN ?_ _ | refine blk_drew ?_ | refine blk_alloc ?_ _)); refine blk_put (cs := #[.int .i64 0, .int .i64 0, .int .u32 0]) ?_ 0 _ rfl; (with_reducible repeat (first | refine blk_drewN ?_ _ | refine blk_drew ?_ | refine blk_alloc ?_ _)); exact BK259.out) Try.underlying45 rfl (by kernel_rfl)) rfl ?_
    exact ⟨by first | rfl | (simp [*, errW_none, errW_some] <;> rfl), by repeat (first | (with_reducible first | exact HB.out | apply below_alloc | apply pw_below_drewN | apply below_drew1 | refine below_set ?_ (Aside0.out (by assumption))) | exact HB.out)⟩
end
section
def spec_l03Part.f (k : Nat) (a0_0 : Int) (a0_1 : Int) (a0_2 : Int) (l1 : List Int) : Option (Int × Int × Int) := (spec_l01First.f k a0_0).bind fun t276 => (if t276.length + l1.length < 17592186044416 then ((spec_l01On.f k a0_1 a0_2 (t276 ++ l1)).bind fun bt282 => ((spec_l03Least.f k a0_0 bt282.1 bt282.2).bind fun bt284 => (some (bt284.1, bt284.2.1, bt284.2.2)))) else (none))
def spec_l03Part.T2 : Bool × List (List Nat × List Nat) := (true, [([], []), ([0], [0]), ([], []), ([2], [2]), ([], []), ([3, 4], [3, 4]), ([1, 5], [1, 5]), ([6, 5], [6]), ([7, 7, 0, 1, 2, 3, 4, 5, 6, 7], [7])])
def spec_l03Part.B2 : List Nat := [0, 1, 0, 4, 0, 28, 63, 127, 255]
theorem spec_l03Part.tab2 : rtab .any (opsOf Try.f127 2) = spec_l03Part.T2 := by kernel_rfl
theorem spec_l03Part.bits2 : waitsOk spec_l03Part.T2.2 spec_l03Part.B2 = true := by kernel_rfl
set_option maxHeartbeats 8000000 in
set_option maxRecDepth 100000 in
theorem spec_l03Part.calls (k : Nat) (a0_0 : Int) (a0_1 : Int) (a0_2 : Int) (A1 : Option Addr) (c1 : Nat) (l1 : List Int) (r1 : Int) (r2 : Int) (r3 : Int) (w : World) (hr1 : Kd.C (Kd.int .i64) w A1 l1.length l1) (hc1 : l1.length ≤ c1) (h : spec_l03Part.f k a0_0 a0_1 a0_2 l1 = some (r1, r2, r3)) :
  Calls Try.prog 127 #[.agg #[.int .i64 a0_0, .int .i64 a0_1, .int .u32 a0_2], .slice A1 l1.length c1] w fun e w' => e = .returned (.agg #[.int .i64 r1, .int .i64 r2, .int .u32 r3]) ∧ Below w.heap.size w w' := by
 have hu45 := Try.underlying45
 have hu27 := Try.underlying27
 have HR1 := Aside0.mk hr1
 have HC1 := Aside0.mk hc1
 clear hr1 hc1
 have HB := Aside0.mk (Below.refl w.heap.size w)
 unfold spec_l03Part.f at h
 have H := h
 clear h
 replace H := Option.bind_eq_some_iff.mp H
 obtain ⟨t276, A30, H⟩ := H
 (try dsimp only at H)
 have A3 := Aside0.mk A30
 clear A30
 by_cases c4 : t276.length + l1.length < 17592186044416
 ·rw [if_pos c4] at H
  have LMc4 := Aside0.mk c4
  clear c4
  obtain ⟨y279, hy279⟩ : ∃ y_ : List Int, y_ = (t276 ++ l1) := ⟨_, rfl⟩
  replace H : ((spec_l01On.f k a0_1 a0_2 y279).bind fun bt282 => ((spec_l03Least.f k a0_0 bt282.1 bt282.2).bind fun bt284 => (some (bt284.1, bt284.2.1, bt284.2.2)))) = some (r1, r2, r3) := by first | (rw [hy279]; with_reducible exact H) | (have H2_ := (Option.bind_some _ _).symm.trans H; rw [hy279]; with_reducible exact H2_) | (have H2_ := (Option.bind_some _ _).symm.trans H; with_reducible exact H2_) | with_reducible exact H | (rw [hy279]; exact H) | exact H
  have Ny279 := Aside0.mk hy279
  clear hy279
  replace H := Option.bind_eq_some_iff.mp H
  obtain ⟨⟨t282, t283⟩, A50, H⟩ := H
  (try dsimp only at H)
  have A5 := Aside0.mk A50
  clear A50
  replace H := Option.bind_eq_some_iff.mp H
  obtain ⟨⟨t284, t285, t286⟩, A60, H⟩ := H
  (try dsimp only at H)
  have A6 := Aside0.mk A60
  clear A60
  simp only [Option.some.injEq, Prod.mk.injEq] at H
  obtain ⟨rfl, rfl, rfl⟩ := H
  go_enter Try.func127, Try.ntmps127
  try go_wp2_with (first | ((with_reducible refine gate_dst (N := 2) rfl ?_); refine box_event rfl (N := 2) rfl (cs := #[.int .i64 a0_0, .int .i64 a0_1, .int .u32 a0_2]) (t := 45) ?hr ?_; (case hr => first | (go_simp; done) | (go_simp; rfl)); intro gb274 hg w7 hbox hb; have BK274 := Aside0.mk (hbox); have GW274 := geA HB hg; replace HB := hbB HB hb; have GE274 := GW274; clear hb hbox hg) | ((with_reducible refine gate_dst (N := 4) rfl ?_); refine box_event rfl (N := 4) rfl (cs := #[.int .i64 0, .int .i64 0, .int .u32 0]) (t := 45) ?hr ?_; (case hr => first | (go_simp; done) | (go_simp; rfl)); intro gb275 hg w8 hbox hb; have BK275 := Aside0.mk (hbox); have GW275 := geA HB hg; replace HB := hbB HB hb; have GE275 := GW275; have NB274_275 := nbA hg BK274; replace BK274 := bkB BK274 hb; have NB275_274 := neA NB274_275; clear hb hbox hg; have hnb9 := NB274_275.out; have hnc9 := NB275_274.out; have hcz10_0 : w8.cell? ⟨gb274, 0, none⟩ = some (.int .i64 a0_0) := bcA BK274 0 rfl; have hcz10_1 : w8.cell? ⟨gb274, 1, none⟩ = some (.int .i64 a0_1) := bcA BK274 1 rfl; have hcz10_2 : w8.cell? ⟨gb274, 2, none⟩ = some (.int .u32 a0_2) := bcA BK274 2 rfl; have hfz10_0 := blk_frozen BK274.out 0; have hfz10_1 := blk_frozen BK274.out 1; have hfz10_2 := blk_frozen BK274.out 2) | ((with_reducible refine gate_callee (f := 92) rfl ?_); refine goesL_ (some 8) rfl rfl Try.func92 (by kernel_rfl) rfl #[.int .i64 a0_0] rfl (by (try simp only [maA, mbA, mcA]); first | done | rfl | (simp only [List.length_drop, List.length_take]; rfl)) ?_; (with_reducible refine (spec_l01First.calls k a0_0 t276 _ A3.out).mono ?_); rintro e w11 ⟨v277, rfl, ho0, hb⟩; refine ⟨_, rfl, ?_⟩; have HO278 := Aside0.mk (Kd.R_lower ho0 (below_size HB.out)); replace BK274 := bkB BK274 hb; replace BK275 := bkB BK275 hb; replace HB := hbB HB hb; (try clear hb); (try clear ho0)) | ((with_reducible refine gate_builtin (b := .append) (xs := #[.tmp 8, .tmp 9]) rfl ?_); at_builtin; refine Kd.R_append_rows (Kd.int .i64) (w0 := w) w.heap.size rfl (.tmp 8) (.tmp 9) 62 2 (.int .i64 0) 8 rfl Try.underlying62 info2 rfl (by decide) (by omega) v277 t276 l1 _ _ _ (fun _ => True) (fun _ => False) rfl rfl ?aO ?aR (fun _ _ h => h) (fun _ h => h.elim) ?aF ?aB ?aS ?aL ?_; (case aR => repeat (first | exact (Kd.C_below HR1.out HB.out) | (with_reducible refine Kd.C_alloc ?_ _) | (with_reducible refine Kd.C_drewN ?_ _) | (with_reducible refine Kd.C_drew ?_))); (case aB => exact (by repeat (first | (with_reducible first | exact HB.out | apply below_alloc | apply pw_below_drewN | apply below_drew1 | refine below_set ?_ GE274.out | refine below_set ?_ GE275.out) | exact HB.out))); (case aF => exact (fun _ _ => trivial)); (case aO => exact (by (with_reducible repeat (first | apply Kd.R_alloc | apply Kd.R_drewN | apply Kd.R_drew)); exact HO278.out)); (case aS => exact (below_size (by repeat (first | (with_reducible first | exact HB.out | apply below_alloc | apply pw_below_drewN | apply below_drew1 | refine below_set ?_ GE274.out | refine below_set ?_ GE275.out) | exact HB.out)))); (case aL => have := LMc4.out; omega); intro v280 w12 ho hb hg hat; rw [← Ny279.out] at ho; replace BK274 := Aside0.mk (blk_grown (g := gb274) (o := .cells #[.int .i64 a0_0, .int .i64 a0_1, .int .u32 a0_2] 45 (0, 0)) BK274.out hg (Kd.R_ne HO278.out BK274.out (by decide))); replace BK275 := Aside0.mk (blk_grown (g := gb275) (o := .cells #[.int .i64 0, .int .i64 0, .int .u32 0] 45 (0, 0)) BK275.out hg (Kd.R_ne HO278.out BK275.out (by decide))); replace HB := Aside0.mk (hb); have HO281 := Aside0.mk (ho); clear HO278; clear ho hb hg hat))
  replace HO281 := Aside0.mk (Kd.R_drew HO281.out)
  replace BK274 := Aside0.mk (blk_drew BK274.out)
  replace BK275 := Aside0.mk (blk_drew BK275.out)
  replace HB := Aside0.mk (below_drew1 HB.out)
  obtain ⟨Ao14, co14, eo14⟩ := Kd.R_slice HO281.out
  (first | subst eo14 | (injection eo14 with f1_ f2_ f3_; have f4_ := f1_.symm; have f5_ := f3_.symm; clear f1_ f2_ f3_; subst f4_; subst f5_))
  refine start_ (n := 9) (S := fun w' => w'.cell? ⟨gb274, 0, none⟩ = some (.int .i64 a0_0) ∧ w'.cell? ⟨gb274, 1, none⟩ = some (.int .i64 a0_1) ∧ w'.cell? ⟨gb274, 2, none⟩ = some (.int .u32 a0_2)) (ds := []) #[false, false, false, false, false, false, false, false, false] (by kernel_rfl) rfl rfl ⟨bcA BK274 0 rfl, bcA BK274 1 rfl, bcA BK274 2 rfl⟩ (fun hHeld => ?_); refine with_tabW spec_l03Part.tab2 spec_l03Part.bits2 (fun HT_ HW_ => ?_)
  generalize w12.drew = w13 at HO281 BK274 BK275 HB hHeld ⊢
  refine pure_ (i := 0) (N := some 11) (v := ?_) (a' := ?_) #[true, false, false, false, false, false, false, false, false] rfl rfl (any_of HT_.out (by kernel_rfl)) (fun _ _ _ h => h) (Or.inl ⟨by rfl, ?_⟩) ?_ ?_
  rotate_left;(intro w';go_simp;with_reducible rfl);rotate_left;(simp only [Act.put, psA, pzA, pnA, i64_w, i32_w];rfl)
  refine pure_ (i := 2) (N := some 13) (v := ?_) (a' := ?_) #[true, false, true, false, false, false, false, false, false] rfl rfl (any_of HT_.out (by kernel_rfl)) (fun _ _ _ h => h) (Or.inl ⟨by rfl, ?_⟩) ?_ ?_
  rotate_left;(intro w';go_simp;with_reducible rfl);rotate_left;(simp only [Act.put, psA, pzA, pnA, i64_w, i32_w];rfl)
  refine pure_ (i := 4) (N := some 15) (v := ?_) (a' := ?_) #[true, false, true, false, true, false, false, false, false] rfl rfl (any_of HT_.out (by kernel_rfl)) (fun _ _ _ h => h) (Or.inl ⟨by rfl, ?_⟩) ?_ ?_
  rotate_left;(intro w';go_simp;with_reducible rfl);rotate_left;(simp only [Act.put, psA, pzA, pnA, i64_w, i32_w];rfl)
  refine take_ (i := 1) (N := some 12) (v := ?_) (a' := ?_) #[true, true, true, false, true, false, false, false, false] rfl rfl (take_ofW HT_.out HW_.out (by kernel_rfl)) (fun _ _ _ h => h) (Or.inl ⟨by rfl, ?_⟩) hHeld ?_ ?_
  rotate_left;(rintro w' ⟨s0, s1, s2⟩;go_simp;with_reducible rfl);rotate_left;(simp only [Act.put, psA, pzA, pnA, i64_w, i32_w];rfl)
  refine take_ (i := 3) (N := some 14) (v := ?_) (a' := ?_) #[true, true, true, true, true, false, false, false, false] rfl rfl (take_ofW HT_.out HW_.out (by kernel_rfl)) (fun _ _ _ h => h) (Or.inl ⟨by rfl, ?_⟩) hHeld ?_ ?_
  rotate_left;(rintro w' ⟨s0, s1, s2⟩;go_simp;with_reducible rfl);rotate_left;(simp only [Act.put, psA, pzA, pnA, i64_w, i32_w];rfl)
  refine one_ (i := 5) (N := some 16) #[true, true, true, true, true, true, false, false, false] rfl rfl (one_of HT_.out (by kernel_rfl)) (by decide) (fun K hK => ?_)
  refine goes_ Try.func61 (by kernel_rfl) rfl #[.agg #[.int .i64 a0_1, .int .u32 a0_2], .slice Ao14 y279.length co14] (by rfl) rfl rfl (by first | rfl | (simp only [List.map_toArray, List.map_cons, List.map_nil, List.length_drop, List.length_take]; rfl)) ?_
  with_reducible refine (spec_l01On.calls k a0_1 a0_2 _ _ y279 t282 t283 _ ?side1 ?side2 A5.out).mono ?_
  (case side1 => repeat (first | exact (Kd.R_reads' HO281.out).2.2 | (with_reducible refine Kd.C_alloc ?_ _) | (with_reducible refine Kd.C_drewN ?_ _) | (with_reducible refine Kd.C_drew ?_)))
  (case side2 => exact (Kd.R_reads' HO281.out).2.1)
  rintro e w15 ⟨rfl, hb⟩
  refine ⟨_, rfl, ?_⟩
  replace HO281 := Kd.R_b HO281 hb
  replace BK274 := bkB BK274 hb
  replace BK275 := bkB BK275 hb
  replace HB := hbB HB hb
  (try clear hb)
  refine hK.out _ _ ⟨bcA BK274 0 rfl, bcA BK274 1 rfl, bcA BK274 2 rfl⟩ (fun hHeld => ?_)
  clear hK K
  refine norm_ (a' := ?_) ?_ ?_
  rotate_left;(show Act.put _ (some 16) _ = _;simp only [Act.put, psA, pzA, pnA, i64_w, i32_w];rfl)
  refine pure_ (i := 6) (N := some 17) (v := ?_) (a' := ?_) #[true, true, true, true, true, true, true, false, false] rfl rfl (any_of HT_.out (by kernel_rfl)) (fun _ _ _ h => h) (Or.inl ⟨by rfl, ?_⟩) ?_ ?_
  rotate_left;(intro w';go_simp;with_reducible rfl);rotate_left;(simp only [Act.put, psA, pzA, pnA, i64_w, i32_w];rfl)
  refine one_ (i := 7) (N := some 18) #[true, true, true, true, true, true, true, true, false] rfl rfl (one_of HT_.out (by kernel_rfl)) (by decide) (fun K hK => ?_)
  refine goes_ Try.func126 (by kernel_rfl) rfl #[.agg #[.int .i64 a0_0, .int .i64 t282, .int .u32 t283]] (by rfl) rfl rfl (by first | rfl | (simp only [List.map_toArray, List.map_cons, List.map_nil, List.length_drop, List.length_take]; rfl)) ?_
  with_reducible refine (spec_l03Least.calls k a0_0 t282 t283 t284 t285 t286 _ A6.out).mono ?_
  rintro e w16 ⟨rfl, hb⟩
  refine ⟨_, rfl, ?_⟩
  replace HO281 := Kd.R_b HO281 hb
  replace BK274 := bkB BK274 hb
  replace BK275 := bkB BK275 hb
  replace HB := hbB HB hb
  (try clear hb)
  refine hK.out _ _ ⟨bcA BK274 0 rfl, bcA BK274 1 rfl, bcA BK274 2 rfl⟩ (fun hHeld => ?_)
  clear hK K
  refine norm_ (a' := ?_) ?_ ?_
  rotate_left;(show Act.put _ (some 18) _ = _;simp only [Act.put, psA, pzA, pnA, i64_w, i32_w];rfl)
  refine one_ (i := 8) (N := none) #[true, true, true, true, true, true, true, true, true] rfl rfl (one_of HT_.out (by kernel_rfl)) (by decide) (fun K hK => ?_)
  have hs17 : w16.cell? ⟨gb275, 0, none⟩ = some (.int .i64 0) := bcA BK275 0 rfl
  have hfs17 := blk_frozen BK275.out 0
  have hns17_0 := NB274_275.out
  have hms17_0 := NB275_274.out
  have hs18 : w16.cell? ⟨gb275, 1, none⟩ = some (.int .i64 0) := bcA BK275 1 rfl
  have hfs18 := blk_frozen BK275.out 1
  have hns18_0 := NB274_275.out
  have hms18_0 := NB275_274.out
  have hs19 : w16.cell? ⟨gb275, 2, none⟩ = some (.int .u32 0) := bcA BK275 2 rfl
  have hfs19 := blk_frozen BK275.out 2
  have hns19_0 := NB274_275.out
  have hms19_0 := NB275_274.out
  refine skip_ (w1 := ?_) (by rfl) rfl ?_ ?_
  rotate_left
  ·go_simp
   rfl
  refine hK.out _ _ ⟨((cell_far (p := ⟨gb275, _, none⟩) NB274_275.out _).trans (((cell_far (p := ⟨gb275, _, none⟩) NB274_275.out _).trans (((cell_far (p := ⟨gb275, _, none⟩) NB274_275.out _).trans (hHeld.1)))))), ((cell_far (p := ⟨gb275, _, none⟩) NB274_275.out _).trans (((cell_far (p := ⟨gb275, _, none⟩) NB274_275.out _).trans (((cell_far (p := ⟨gb275, _, none⟩) NB274_275.out _).trans (hHeld.2.1)))))), ((cell_far (p := ⟨gb275, _, none⟩) NB274_275.out _).trans (((cell_far (p := ⟨gb275, _, none⟩) NB274_275.out _).trans (((cell_far (p := ⟨gb275, _, none⟩) NB274_275.out _).trans (hHeld.2.2))))))⟩ (fun hHeld => ?_)
  clear hK K
  refine done_ (done_of HT_.out (by kernel_rfl)) ?_
  try go_wp2
  refine bodyPost_ret (results_cell_row rfl _ _ gb275 45 #[.int .i64 t284, .int .i64 t285, .int .u32 t286] (0, 0) _ rfl (by (with_reducible repeat (first | refine blk_drewN ?_ _ | refine blk_drew ?_ | refine blk_alloc ?_ _)); refine blk_put (cs := #[.int .i64 t284, .int .i64 t285, .int .u32 0]) ?_ 2 _ rfl; (with_reducible repeat (first | refine blk_drewN ?_ _ | refine blk_drew ?_ | refine blk_alloc ?_ _)); refine blk_put (cs := #[.int .i64 t284, .int .i64 0, .int .u32 0]) ?_ 1 _ rfl; (with_reducible repeat (first | refine blk_drewN ?_ _ | refine blk_drew ?_ | refine blk_alloc ?_ _)); refine blk_put (cs := #[.int .i64 0, .int .i64 0, .int .u32 0]) ?_ 0 _ rfl; (with_reducible repeat (first | refine blk_drewN ?_ _ | refine blk_drew ?_ | refine blk_alloc ?_ _)); exact BK275.out) Try.underlying45 rfl (by kernel_rfl)) rfl ?_
  exact ⟨by first | rfl | (simp [*, errW_none, errW_some] <;> rfl), by repeat (first | (with_reducible first | exact HB.out | apply below_alloc | apply pw_below_drewN | apply below_drew1 | refine below_set ?_ GE274.out | refine below_set ?_ GE275.out) | exact HB.out)⟩
 ·rw [if_neg c4] at H
  exact absurd H (by simp)
end
section
def spec_l02Common.l0 : Nat → Int → Int → Option (Int)
 | 0, _, _ => none
 | k + 1, x0, x1 => if x1 = 0 then (some x0) else (spec_l02Common.l0 k x1 (Int.tmod x0 x1))
def spec_l02Common.f (k : Nat) (a0 : Int) (a1 : Int) : Option (Int) := spec_l02Common.l0 k a0 a1
theorem spec_l02Common.mono_l : ∀ k, (∀ y0 y1, LeO (spec_l02Common.l0 k y0 y1) (spec_l02Common.l0 (k + 1) y0 y1))
 | 0 => fun _ _ r h => by simp [spec_l02Common.l0] at h
 | k + 1 => by
  have ih0 := spec_l02Common.mono_l k
  ·intro y0 y1
   unfold spec_l02Common.l0
   repeat' first
   | (with_reducible exact ih0 _ _)
   | (with_reducible exact LeO.refl _)
   | (with_reducible exact LeO.none _)
   | (with_reducible refine LeO.ite ?_ ?_)
   | (with_reducible refine LeO.bind ?_ (fun _ => ?_))
   | exact ih0 _ _
   | exact LeO.none _
   | refine LeO.ite ?_ ?_
   | refine LeO.bind ?_ (fun _ => ?_)
theorem spec_l02Common.mono : ∀ a0 a1 k, LeO (spec_l02Common.f k a0 a1) (spec_l02Common.f (k + 1) a0 a1) := by
 intro a0 a1 k
 have ih0 := spec_l02Common.mono_l k
 unfold spec_l02Common.f
 repeat' first
   | (with_reducible exact ih0 _ _)
   | (with_reducible exact LeO.refl _)
   | (with_reducible exact LeO.none _)
   | (with_reducible refine LeO.ite ?_ ?_)
   | (with_reducible refine LeO.bind ?_ (fun _ => ?_))
   | exact ih0 _ _
   | exact LeO.none _
   | refine LeO.ite ?_ ?_
   | refine LeO.bind ?_ (fun _ => ?_)
set_option maxHeartbeats 8000000 in
set_option maxRecDepth 100000 in
theorem spec_l02Common.calls (k : Nat) (a0 : Int) (a1 : Int) (r : Int) (w : World) (h : spec_l02Common.f k a0 a1 = some r) :
  Calls Try.prog 175 #[.int .i64 a0, .int .i64 a1] w fun e w' => e = .returned (.int .i64 r) ∧ Drawn0 w w' := by
 unfold spec_l02Common.f at h
 have H := h
 clear h
 have H' := Aside0.mk H
 clear H
 go_enter Try.func175, Try.ntmps175
 go_wp2
 go_loopg [0, 1] k (fun kq v0 v1 w' => ∃ (x0_1 : Int) (x1_1 : Int), v0 = .int .i64 x0_1 ∧ v1 = .int .i64 x1_1 ∧ Aside0 (spec_l02Common.l0 kq x0_1 x1_1 = some r) ∧ Aside0 (kq ≤ k) ∧ Drawn0 w w')
 case atStart => exact ⟨(a0), (a1), (by first | rfl | (simp; done) | (simp [*]; done)), (by first | rfl | (simp; done) | (simp [*]; done)), H', ⟨Nat.le_refl _⟩, by repeat (first | exact Drawn0.refl _ | apply Drawn0.step)⟩
 case round =>
  clear H'
  try clear c1
  try clear p2
  obtain ⟨x0_1, x1_1, rfl, rfl, HA, HK1, ⟨m1, rfl⟩⟩ := hrel
  cases gk with
  | zero => exact absurd HA.out (by simp [spec_l02Common.l0])
  | succ k1 =>
   have H := HA.out
   clear HA
   simp only [spec_l02Common.l0] at H
   by_cases c3 : x1_1 = 0
   ·rw [if_pos c3] at H
    have c3b0 : (x1_1 == 0) = true := beq_iff_eq.mpr c3
    have c3b1 : (x1_1 != 0) = false := bne_eq_false_iff_eq.mpr c3
    clear c3
    obtain rfl := Option.some.inj H
    go_wp2
    go_ret
    exact ⟨by first | rfl | (simp; done) | (simp [*]; done), by repeat (first | exact Drawn0.refl _ | apply Drawn0.step)⟩
   ·rw [if_neg c3] at H
    have c3b0 : (x1_1 == 0) = false := beq_eq_false_iff_ne.mpr c3
    have c3b1 : (x1_1 != 0) = true := bne_iff_ne.mpr c3
    have H' := Aside0.mk H
    clear H
    go_wp2
    go_roundg k1
    case measure => have := HK1.out; omega
    case rel => exact ⟨(x1_1), (Int.tmod x0_1 x1_1), (by first | rfl | (simp; done) | (simp [*]; done)), (by first | rfl | (simp; done) | (simp [*]; done)), H', ⟨by have := HK1.out; omega⟩, by repeat (first | exact Drawn0.refl _ | apply Drawn0.step)⟩
end
section
def spec_l02Abs.f (a0 : Int) : Option (Int) := if a0 < 0 then (some (wrap64 (-a0))) else (some a0)
set_option maxHeartbeats 8000000 in
set_option maxRecDepth 100000 in
theorem spec_l02Abs.calls (a0 : Int) (r : Int) (w : World) (h : spec_l02Abs.f a0 = some r) :
  Calls Try.prog 176 #[.int .i64 a0] w fun e w' => e = .returned (.int .i64 r) ∧ Drawn0 w w' := by
 unfold spec_l02Abs.f at h
 have H := h
 clear h
 by_cases c2 : a0 < 0
 ·rw [if_pos c2] at H
  have c2b0 : decide (a0 < 0) = true := decide_eq_true c2
  clear c2
  obtain rfl := Option.some.inj H
  go_enter Try.func176, Try.ntmps176
  go_wp2
  go_ret
  exact ⟨by first | rfl | (simp; done) | (simp [*]; done), by repeat (first | exact Drawn0.refl _ | apply Drawn0.step)⟩
 ·rw [if_neg c2] at H
  have c2b0 : decide (a0 < 0) = false := decide_eq_false c2
  clear c2
  obtain rfl := Option.some.inj H
  go_enter Try.func176, Try.ntmps176
  go_wp2
  go_ret
  exact ⟨by first | rfl | (simp; done) | (simp [*]; done), by repeat (first | exact Drawn0.refl _ | apply Drawn0.step)⟩
end
end Go.Proofs.Ytcepbgffnneagaa.Q
end
