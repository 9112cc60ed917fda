/- Contracts of Go functions and plain lemmas over what they compute; printed by the kit's print program or written by hand, joined. -/
import Derived.Test.YtcepbgffnneagaaBFnExactGraphDensities3
import Derived.Test.YtcepbgffnneagaaBFnExactGraphDensities9
import Derived.Test.YtcepbgffnneagaaBFnExactGraphDensities14
import Derived.Test.YtcepbgffnneagaaBFnExactGraphDensities11
import Derived.Test.YtcepbgffnneagaaBFnExactGraphDensities5
import Derived.Test.YtcepbgffnneagaaBFnExactGraphDensities10
import Derived.Test.YtcepbgffnneagaaBFnExactGraphDensities4
import Derived.Test.YtcepbgffnneagaaBFnExactGraphDensities8
import Derived.Test.YtcepbgffnneagaaBFnExactGraphDensities12
import Derived.Test.YtcepbgffnneagaaBFnExactGraphDensities6
section
namespace Go.Proofs.Ytcepbgffnneagaa.Q
open Go.RowKit Go.Proofs.YtcepbgffnneagaaW.PrintWords Go.Proofs.YtcepbgffnneagaaW.PrintLast Go.Proofs.YtcepbgffnneagaaW.PrintMore
attribute [local go_sem] max2_int min2_int max_two min_two max_three min_three max_four min_four   -- for this text's walks alone
set_option linter.unusedVariables false
set_option linter.unusedSimpArgs false

def laws_markFractionS.l0 : Nat → List (S31) → Int → Int → Option (Int × (List (S31)))
 | 0, _, _, _ => none
 | k + 1, x0, x1, x5 => if x5 < (x0.length : Int) then (if 0 ≤ x5 then ((some (x0.set (x5 : Int).toNat (⟨x1, (rd_T31 x0 x5).f1⟩ : S31) : List (S31))).bind fun y468 => (laws_markFractionS.l0 k (y468.set (x5 : Int).toNat (⟨(rd_T31 y468 x5).f0, wrap64 (x1 + 1)⟩ : S31)) (wrap64 ((wrap64 (x1 + 1)) + 1)) (wrap64 (x5 + 1)))) else (none)) else (some (x1, x0))
def laws_markFractionS.f (k : Nat) (l0 : List (S31)) (a1 : Int) : Option (Int × (List (S31))) := laws_markFractionS.l0 k l0 a1 0
set_option maxHeartbeats 8000000 in
set_option maxRecDepth 100000 in
theorem laws_markFractionS.calls (k : Nat) (P0_ : Nat → Prop) (u9000_ : Value) (l0 : List (S31)) (a1 : Int) (r1 : Int) (r2 : List (S31)) (w0 w : World) (hB : Below w0.heap.size w0 w) (ho0 : Kd.R k31 31 w w0.heap.size P0_ u9000_ l0) (h : laws_markFractionS.f k l0 a1 = some (r1, r2)) :
  Calls Try.prog 22 #[u9000_, .int .i64 a1] w fun e w' => e = .returned (.int .i64 r1) ∧ Kd.R k31 31 w' w0.heap.size (fun k_ => (P0_ k_ ∨ w.heap.size ≤ k_)) u9000_ r2 ∧ Below w0.heap.size w0 w' ∧ Kept w w' (fun k_ => P0_ k_) := by
 have HO0 := Aside0.mk (show Kd.R k31 31 w w0.heap.size (fun k_ => (P0_ k_ ∨ w.heap.size ≤ k_)) u9000_ l0 from Kd.R_mono ho0 (fun k_ hk => (.inl hk)))
 have HK := Aside0.mk (Kept.refl w (fun k_ => P0_ k_))
 have HW0 := Aside0.mk hB.size
 have HB := Aside0.mk hB
 clear hB
 have H : (laws_markFractionS.l0 k l0 a1 0) = some (r1, r2) := h
 clear h
 have H' := Aside0.mk H
 clear H
 go_enter Try.func22, Try.ntmps22
 go_wp2
 go_loopg [1, 5] k (fun kq v1 v5 w' => ∃ (x0_1 : List (S31)) (x1_1 : Int) (x5_1 : Int), v1 = .int .i64 x1_1 ∧ v5 = .int .i64 x5_1 ∧ Aside0 (laws_markFractionS.l0 kq x0_1 x1_1 x5_1 = some (r1, r2)) ∧ Aside0 (kq ≤ k) ∧ Aside0 (Kd.R k31 31 w' w0.heap.size (fun k_ => (P0_ k_ ∨ w.heap.size ≤ k_)) u9000_ x0_1) ∧ Aside0 (Kept w w' (fun k_ => P0_ k_)) ∧ Aside0 (Below w0.heap.size w0 w'))
 case atStart => exact ⟨(l0), (a1), (0), (by first | rfl | (simp; done) | (simp [*]; done)), (by first | rfl | (simp; done) | (simp [*]; done)), H', ⟨Nat.le_refl _⟩, ⟨by (with_reducible repeat (first | apply Kd.R_alloc | apply Kd.R_drewN | apply Kd.R_drew)); exact HO0.out⟩, ⟨by repeat (first | (with_reducible first | exact HK.out | apply Kept.alloc | apply Kept.drewN | apply Kept.drew) | exact HK.out)⟩, ⟨by repeat (first | (with_reducible first | exact HB.out | apply below_alloc | apply pw_below_drewN | apply below_drew1) | exact HB.out)⟩⟩
 case round =>
  clear H'
  try clear c2
  try clear p2
  obtain ⟨x0_1, x1_1, x5_1, rfl, rfl, HA, HK1, HO_0, HK, HB⟩ := hrel
  cases gk with
  | zero => exact absurd HA.out (by simp [laws_markFractionS.l0])
  | succ k1 =>
   have H := HA.out
   clear HA
   simp only [laws_markFractionS.l0] at H
   by_cases c3 : x5_1 < (x0_1.length : Int)
   ·rw [if_pos c3] at H
    have c3b0 : decide (x5_1 < (x0_1.length : Int)) = true := decide_eq_true c3
    clear c3
    by_cases c4 : 0 ≤ x5_1
    ·rw [if_pos c4] at H
     have c4b0 : decide (0 ≤ x5_1) = true := decide_eq_true c4
     clear c4
     obtain ⟨y468, hy468⟩ : ∃ y_ : List (S31), y_ = (x0_1.set (x5_1 : Int).toNat (⟨x1_1, (rd_T31 x0_1 x5_1).f1⟩ : S31)) := ⟨_, rfl⟩
     replace H : (laws_markFractionS.l0 k1 (y468.set (x5_1 : Int).toNat (⟨(rd_T31 y468 x5_1).f0, wrap64 (x1_1 + 1)⟩ : S31)) (wrap64 ((wrap64 (x1_1 + 1)) + 1)) (wrap64 (x5_1 + 1))) = some (r1, r2) := by first | (rw [hy468]; with_reducible exact H) | (have H2_ := (Option.bind_some _ _).symm.trans H; rw [hy468]; with_reducible exact H2_) | (have H2_ := (Option.bind_some _ _).symm.trans H; with_reducible exact H2_) | with_reducible exact H | (rw [hy468]; exact H) | exact H
     have Ny468 := Aside0.mk hy468
     clear hy468
     obtain ⟨y469, hy469⟩ : ∃ y_ : List (S31), y_ = (y468.set (x5_1 : Int).toNat (⟨(rd_T31 y468 x5_1).f0, wrap64 (x1_1 + 1)⟩ : S31)) := ⟨_, rfl⟩
     replace H : (laws_markFractionS.l0 k1 y469 (wrap64 ((wrap64 (x1_1 + 1)) + 1)) (wrap64 (x5_1 + 1))) = some (r1, r2) := by first | (rw [hy469]; with_reducible exact H) | (have H2_ := (Option.bind_some _ _).symm.trans H; rw [hy469]; with_reducible exact H2_) | (have H2_ := (Option.bind_some _ _).symm.trans H; with_reducible exact H2_) | with_reducible exact H | (rw [hy469]; exact H) | exact H
     have Ny469 := Aside0.mk hy469
     clear hy469
     have H' := Aside0.mk H
     clear H
     obtain ⟨Ao7, co7, eo7⟩ := Kd.R_slice HO_0.out
     subst eo7
     have p5 : 0 ≤ (x5_1 : Int) := of_decide_eq_true (by first | (with_reducible assumption) | assumption)
     have q5 : (x5_1 : Int) < ((x0_1.length : Int) : Int) := of_decide_eq_true (by first | (with_reducible assumption) | assumption)
     obtain ⟨go5, co5, eo5, gb5, gl5, cl5, HG5⟩ := Kd.R_form HO_0.out (by omega)
     (first | cases eo5 | (injection eo5 with ea_ en_ ec_; (first | subst ea_ | (injection ea_ with ea_; subst ea_)); subst ec_; clear en_))
     have GB5 := Aside0.mk gb5
     have GG5 := Aside0.mk HG5
     clear gb5 gl5 HG5
     have HMgo5 := Aside0.mk (show (P0_ go5 ∨ w.heap.size ≤ go5) from (HO_0.out.1 _ rfl))
     obtain ⟨ce5, hcl5, hM5, hcc5, hfr5⟩ := Kd.R_elem HO_0.out z31 (x5_1 : Int) p5 q5
     obtain rfl := k31_openM hM5
     have hx5_0 : wr.cell? ⟨go5, (x5_1 : Int).toNat * 2, none⟩ = some (.int .i64 ((rd_T31 x0_1 x5_1).f0)) := hcc5 0 _ rfl
     have hx5_1 : wr.cell? ⟨go5, (x5_1 : Int).toNat * 2 + 1, none⟩ = some (.int .i64 ((rd_T31 x0_1 x5_1).f1)) := hcc5 1 _ rfl
     have hf5_0 : wr.frozen? ⟨go5, (x5_1 : Int).toNat * 2, none⟩ = false := hfr5 0
     have hf5_1 : wr.frozen? ⟨go5, (x5_1 : Int).toNat * 2 + 1, none⟩ = false := hfr5 1
     clear hcl5 hcc5 hfr5; (try clear hM5)
     replace p5 := eq_true p5
     replace q5 := eq_true q5
     have HX8 := Aside0.mk (show Kd.R k31 31 wr w0.heap.size (fun k_ => (P0_ k_ ∨ w.heap.size ≤ k_)) (.slice (some ⟨go5, 0, none⟩) x0_1.length co7) x0_1 from (by (with_reducible repeat (first | apply Kd.R_alloc | apply Kd.R_drewN | apply Kd.R_drew)); exact HO_0.out))
     obtain ⟨ce8, hcl8, hM8, hcc8, hfr8⟩ := Kd.R_elem HX8.out z31 (x5_1 : Int) (of_decide_eq_true (by first | (with_reducible assumption) | assumption)) (by have h_ : (x5_1 : Int) < ((x0_1.length : Int) : Int) := of_decide_eq_true (by first | (with_reducible assumption) | assumption); first | exact h_ | (have e_ := (Kd.R_reads' HO_0.out).1; omega) | simpa using h_)
     obtain rfl := k31_openM hM8
     have HP8 := Kd.R_seg HX8.out (x5_1 : Int) (of_decide_eq_true (by first | (with_reducible assumption) | assumption)) (by have h_ : (x5_1 : Int) < ((x0_1.length : Int) : Int) := of_decide_eq_true (by first | (with_reducible assumption) | assumption); first | exact h_ | (have e_ := (Kd.R_reads' HO_0.out).1; omega) | simpa using h_) (seg := [.int .i64 x1_1]) (j := 0) hcl8 hcc8 (show 1 ≤ 2 from by decide) (x' := (⟨x1_1, (rd_T31 x0_1 x5_1).f1⟩ : S31)) (k31_mkM _ _ _ (⟨x1_1, (rd_T31 x0_1 x5_1).f1⟩ : S31) ) (fun _ hk => hk)
     have hx8_0 := hcc8 0 _ rfl
     (try simp only [show (k31).sz = 2 from rfl, Nat.mul_one, Nat.add_zero] at hx8_0)
     have hf8_0 := hfr8 0
     (try simp only [show (k31).sz = 2 from rfl, Nat.mul_one, Nat.add_zero] at hf8_0)
     clear hcl8 hcc8 hfr8; (try clear hM8)
     go_wp2_with (first | ((with_reducible refine gate_store (t := 2) (p := 16) rfl ?_); refine store_event (t := 2) (p := 16) (v := ?vo_w9) (w1 := (wr.setCell ⟨go5, (x5_1 : Int).toNat * 2, none⟩ (.int .i64 x1_1))) ?hg ?ho ?hn ?hr ?_; (case ho => rfl); (case hg => rfl); (case hn => rfl); (case hr => first | (go_simp; done) | (go_simp; rfl)); intro w9 hw; have hg : wr.grownBy w9 (some go5) := (by rw [hw]; exact HP8.2); have hp_ : Kd.R k31 31 w9 w0.heap.size (fun k_ => (P0_ k_ ∨ w.heap.size ≤ k_)) (.slice (some ⟨go5, 0, none⟩) x0_1.length co7) y468 := (by rw [hw, Ny468.out]; exact HP8.1); clear HP8; have n0_ := Aside0.mk (hp_); have n1_ := Aside0.mk ((by rw [hw]; exact below_set (HB.out) GB5.out : Below w0.heap.size w0 w9)); have n2_ := Aside0.mk (Kept.of_grown (S := (fun k_ => P0_ k_)) hg (by repeat (first | (with_reducible first | exact HK.out | apply Kept.alloc | apply Kept.drewN | apply Kept.drew) | exact HK.out)) (fun k_ e_ => (HO_0.out.1 k_ e_))); clear HO_0; clear HB; clear HK; have HO_0 := n0_; have HB := n1_; have HK := n2_; clear n0_ n1_ n2_; clear hg hw hp_; have p6 : 0 ≤ (x5_1 : Int) := of_decide_eq_true (by first | (with_reducible assumption) | assumption); have q6 : (x5_1 : Int) < ((x0_1.length : Int) : Int) := of_decide_eq_true (by first | (with_reducible assumption) | assumption); obtain ⟨ce6, hcl6, hM6, hcc6, hfr6⟩ := Kd.R_elem HO_0.out z31 (x5_1 : Int) p6 q6; obtain rfl := k31_openM hM6; have hx6_0 : w9.cell? ⟨go5, (x5_1 : Int).toNat * 2, none⟩ = some (.int .i64 ((rd_T31 y468 x5_1).f0)) := hcc6 0 _ rfl; have hx6_1 : w9.cell? ⟨go5, (x5_1 : Int).toNat * 2 + 1, none⟩ = some (.int .i64 ((rd_T31 y468 x5_1).f1)) := hcc6 1 _ rfl; have hf6_0 : w9.frozen? ⟨go5, (x5_1 : Int).toNat * 2, none⟩ = false := hfr6 0; have hf6_1 : w9.frozen? ⟨go5, (x5_1 : Int).toNat * 2 + 1, none⟩ = false := hfr6 1; clear hcl6 hcc6 hfr6; (try clear hM6); replace p6 := eq_true p6; replace q6 := eq_true q6; have HX10 := Aside0.mk (show Kd.R k31 31 w9 w0.heap.size (fun k_ => (P0_ k_ ∨ w.heap.size ≤ k_)) (.slice (some ⟨go5, 0, none⟩) x0_1.length co7) y468 from (by (with_reducible repeat (first | apply Kd.R_alloc | apply Kd.R_drewN | apply Kd.R_drew)); exact HO_0.out)); obtain ⟨ce10, hcl10, hM10, hcc10, hfr10⟩ := Kd.R_elem HX10.out z31 (x5_1 : Int) (of_decide_eq_true (by first | (with_reducible assumption) | assumption)) (by have h_ : (x5_1 : Int) < ((x0_1.length : Int) : Int) := of_decide_eq_true (by first | (with_reducible assumption) | assumption); first | exact h_ | (have e_ := (Kd.R_reads' HO_0.out).1; omega) | simpa using h_); obtain rfl := k31_openM hM10; have HP10 := Kd.R_seg HX10.out (x5_1 : Int) (of_decide_eq_true (by first | (with_reducible assumption) | assumption)) (by have h_ : (x5_1 : Int) < ((x0_1.length : Int) : Int) := of_decide_eq_true (by first | (with_reducible assumption) | assumption); first | exact h_ | (have e_ := (Kd.R_reads' HO_0.out).1; omega) | simpa using h_) (seg := [.int .i64 (wrap64 (x1_1 + 1))]) (j := 1) hcl10 hcc10 (show 2 ≤ 2 from by decide) (x' := (⟨(rd_T31 y468 x5_1).f0, wrap64 (x1_1 + 1)⟩ : S31)) (k31_mkM _ _ _ (⟨(rd_T31 y468 x5_1).f0, wrap64 (x1_1 + 1)⟩ : S31) ) (fun _ hk => hk); have hx10_1 := hcc10 1 _ rfl; (try simp only [show (k31).sz = 2 from rfl, Nat.mul_one, Nat.add_zero] at hx10_1); have hf10_1 := hfr10 1; (try simp only [show (k31).sz = 2 from rfl, Nat.mul_one, Nat.add_zero] at hf10_1); clear hcl10 hcc10 hfr10; (try clear hM10)) | ((with_reducible refine gate_store (t := 2) (p := 23) rfl ?_); refine store_event (t := 2) (p := 23) (v := ?vo_w11) (w1 := (w9.setCell ⟨go5, (x5_1 : Int).toNat * 2 + 1, none⟩ (.int .i64 (wrap64 (x1_1 + 1))))) ?hg ?ho ?hn ?hr ?_; (case ho => rfl); (case hg => rfl); (case hn => rfl); (case hr => first | (go_simp; done) | (go_simp; rfl)); intro w11 hw; have hg : w9.grownBy w11 (some go5) := (by rw [hw]; exact HP10.2); have hp_ : Kd.R k31 31 w11 w0.heap.size (fun k_ => (P0_ k_ ∨ w.heap.size ≤ k_)) (.slice (some ⟨go5, 0, none⟩) x0_1.length co7) y469 := (by rw [hw, Ny469.out]; exact HP10.1); clear HP10; have n0_ := Aside0.mk (hp_); have n1_ := Aside0.mk ((by rw [hw]; exact below_set (HB.out) GB5.out : Below w0.heap.size w0 w11)); have n2_ := Aside0.mk (Kept.of_grown (S := (fun k_ => P0_ k_)) hg (by repeat (first | (with_reducible first | exact HK.out | apply Kept.alloc | apply Kept.drewN | apply Kept.drew) | exact HK.out)) (fun k_ e_ => (HO_0.out.1 k_ e_))); clear HO_0; clear HB; clear HK; have HO_0 := n0_; have HB := n1_; have HK := n2_; clear n0_ n1_ n2_; clear hg hw hp_))
     go_roundg k1
     case measure => have := HK1.out; omega
     case rel => exact ⟨(y469), (wrap64 ((wrap64 (x1_1 + 1)) + 1)), (wrap64 (x5_1 + 1)), (by first | rfl | (simp; done) | (simp [*]; done)), (by first | rfl | (simp; done) | (simp [*]; done)), H', ⟨by have := HK1.out; omega⟩, ⟨by (with_reducible repeat (first | apply Kd.R_alloc | apply Kd.R_drewN | apply Kd.R_drew)); exact HO_0.out⟩, ⟨by repeat (first | (with_reducible first | exact HK.out | apply Kept.alloc | apply Kept.drewN | apply Kept.drew) | exact HK.out)⟩, ⟨by repeat (first | (with_reducible first | exact HB.out | apply below_alloc | apply pw_below_drewN | apply below_drew1) | exact HB.out)⟩⟩
    ·rw [if_neg c4] at H
     exact absurd H (by simp)
   ·rw [if_neg c3] at H
    have c3b0 : decide (x5_1 < (x0_1.length : Int)) = false := decide_eq_false c3
    clear c3
    simp only [Option.some.injEq, Prod.mk.injEq] at H
    obtain ⟨rfl, rfl⟩ := H
    obtain ⟨Ao12, co12, eo12⟩ := Kd.R_slice HO_0.out
    subst eo12
    go_wp2
    go_ret
    exact ⟨by first | rfl | (simp [errW_none, errW_some] <;> rfl) | (simp [*, errW_none, errW_some] <;> rfl), by (with_reducible repeat (first | apply Kd.R_alloc | apply Kd.R_drewN | apply Kd.R_drew)); exact HO_0.out, by repeat (first | (with_reducible first | exact HB.out | apply below_alloc | apply pw_below_drewN | apply below_drew1) | exact HB.out), by repeat (first | (with_reducible first | exact HK.out | apply Kept.alloc | apply Kept.drewN | apply Kept.drew) | exact HK.out)⟩

end Go.Proofs.Ytcepbgffnneagaa.Q
end

section
namespace Go.Proofs.Ytcepbgffnneagaa.Q
open Go.RowKit Go.Proofs.YtcepbgffnneagaaW.PrintWords Go.Proofs.YtcepbgffnneagaaW.PrintLast Go.Proofs.YtcepbgffnneagaaW.PrintMore
attribute [local go_sem] max2_int min2_int max_two min_two max_three min_three max_four min_four   -- for this text's walks alone
set_option linter.unusedVariables false
set_option linter.unusedSimpArgs false

def laws_heldFractionS.l0 : Nat → List (S31) → Int → Int → Option (Int)
 | 0, _, _, _ => none
 | k + 1, x0, x1, x5 => if x5 < (x0.length : Int) then (if 0 ≤ x5 then (if ((rd_T31 x0 x5).f0) = x1 then (if ((rd_T31 x0 x5).f1) = (wrap64 (x1 + 1)) then (laws_heldFractionS.l0 k x0 (wrap64 ((wrap64 (x1 + 1)) + 1)) (wrap64 (x5 + 1))) else (some (-1))) else (some (-1))) else (none)) else (some x1)
def laws_heldFractionS.f (k : Nat) (l0 : List (S31)) (a1 : Int) : Option (Int) := laws_heldFractionS.l0 k l0 a1 0
set_option maxHeartbeats 8000000 in
set_option maxRecDepth 100000 in
theorem laws_heldFractionS.calls (k : Nat) (A0 : Option Addr) (c0 : Nat) (l0 : List (S31)) (a1 : Int) (r : Int) (w : World) (hr0 : Kd.C k31 w A0 l0.length l0) (hc0 : l0.length ≤ c0) (h : laws_heldFractionS.f k l0 a1 = some r) :
  Calls Try.prog 23 #[.slice A0 l0.length c0, .int .i64 a1] w fun e w' => e = .returned (.int .i64 r) ∧ Drawn0 w w' := by
 have HR0 := Aside0.mk hr0
 have HC0 := Aside0.mk hc0
 clear hr0 hc0
 have H : (laws_heldFractionS.l0 k l0 a1 0) = some r := h
 clear h
 have H' := Aside0.mk H
 clear H
 go_enter Try.func23, Try.ntmps23
 go_wp2
 go_loopg [1, 5] k (fun kq v1 v5 w' => ∃ (x1_1 : Int) (x5_1 : Int), v1 = .int .i64 x1_1 ∧ v5 = .int .i64 x5_1 ∧ Aside0 (laws_heldFractionS.l0 kq l0 x1_1 x5_1 = some r) ∧ Aside0 (kq ≤ k) ∧ Drawn0 w w')
 case atStart => exact ⟨(a1), (0), (by first | rfl | (simp; done) | (simp [*]; done)), (by first | rfl | (simp; done) | (simp [*]; done)), H', ⟨Nat.le_refl _⟩, by repeat (first | exact Drawn0.refl _ | apply Drawn0.step)⟩
 case round =>
  clear H'
  try clear c2
  try clear p2
  obtain ⟨x1_1, x5_1, rfl, rfl, HA, HK1, ⟨m1, rfl⟩⟩ := hrel
  cases gk with
  | zero => exact absurd HA.out (by simp [laws_heldFractionS.l0])
  | succ k1 =>
   have H := HA.out
   clear HA
   simp only [laws_heldFractionS.l0] at H
   by_cases c3 : x5_1 < (l0.length : Int)
   ·rw [if_pos c3] at H
    have c3b0 : decide (x5_1 < (l0.length : Int)) = true := decide_eq_true c3
    clear c3
    by_cases c4 : 0 ≤ x5_1
    ·rw [if_pos c4] at H
     have c4b0 : decide (0 ≤ x5_1) = true := decide_eq_true c4
     clear c4
     by_cases c5 : ((rd_T31 l0 x5_1).f0) = x1_1
     ·rw [if_pos c5] at H
      have c5b0 : (((rd_T31 l0 x5_1).f0) == x1_1) = true := beq_iff_eq.mpr c5
      have c5b1 : (((rd_T31 l0 x5_1).f0) != x1_1) = false := bne_eq_false_iff_eq.mpr c5
      clear c5
      by_cases c6 : ((rd_T31 l0 x5_1).f1) = (wrap64 (x1_1 + 1))
      ·rw [if_pos c6] at H
       have c6b0 : (((rd_T31 l0 x5_1).f1) == (wrap64 (x1_1 + 1))) = true := beq_iff_eq.mpr c6
       have c6b1 : (((rd_T31 l0 x5_1).f1) != (wrap64 (x1_1 + 1))) = false := bne_eq_false_iff_eq.mpr c6
       clear c6
       have H' := Aside0.mk H
       clear H
       have p470 : 0 ≤ (x5_1 : Int) := of_decide_eq_true (by first | (with_reducible assumption) | assumption)
       have q470 : x5_1 < (l0.length : Int) := of_decide_eq_true (by first | (with_reducible assumption) | assumption)
       obtain ⟨ad470, e470, hx470_0, hx470_1⟩ := at_T31 HR0.out x5_1 p470 q470
       cases e470
       replace p470 := eq_true p470
       replace q470 := eq_true q470
       have p471 : 0 ≤ (x5_1 : Int) := of_decide_eq_true (by first | (with_reducible assumption) | assumption)
       have q471 : x5_1 < (l0.length : Int) := of_decide_eq_true (by first | (with_reducible assumption) | assumption)
       obtain ⟨ad471, e471, hx471_0, hx471_1⟩ := at_T31 HR0.out x5_1 p471 q471
       obtain rfl : ad470 = ad471 := (by injection e471)
       replace p471 := eq_true p471
       replace q471 := eq_true q471
       go_wp2
       go_roundg k1
       case measure => have := HK1.out; omega
       case rel => exact ⟨(wrap64 ((wrap64 (x1_1 + 1)) + 1)), (wrap64 (x5_1 + 1)), (by first | rfl | (simp; done) | (simp [*]; done)), (by first | rfl | (simp; done) | (simp [*]; done)), H', ⟨by have := HK1.out; omega⟩, by repeat (first | exact Drawn0.refl _ | apply Drawn0.step)⟩
      ·rw [if_neg c6] at H
       have c6b0 : (((rd_T31 l0 x5_1).f1) == (wrap64 (x1_1 + 1))) = false := beq_eq_false_iff_ne.mpr c6
       have c6b1 : (((rd_T31 l0 x5_1).f1) != (wrap64 (x1_1 + 1))) = true := bne_iff_ne.mpr c6
       obtain rfl := Option.some.inj H
       have p470 : 0 ≤ (x5_1 : Int) := of_decide_eq_true (by first | (with_reducible assumption) | assumption)
       have q470 : x5_1 < (l0.length : Int) := of_decide_eq_true (by first | (with_reducible assumption) | assumption)
       obtain ⟨ad470, e470, hx470_0, hx470_1⟩ := at_T31 HR0.out x5_1 p470 q470
       cases e470
       replace p470 := eq_true p470
       replace q470 := eq_true q470
       have p471 : 0 ≤ (x5_1 : Int) := of_decide_eq_true (by first | (with_reducible assumption) | assumption)
       have q471 : x5_1 < (l0.length : Int) := of_decide_eq_true (by first | (with_reducible assumption) | assumption)
       obtain ⟨ad471, e471, hx471_0, hx471_1⟩ := at_T31 HR0.out x5_1 p471 q471
       obtain rfl : ad470 = ad471 := (by injection e471)
       replace p471 := eq_true p471
       replace q471 := eq_true q471
       go_wp2
       go_ret
       exact ⟨by first | rfl | (simp; done) | (simp [*]; done), by repeat (first | exact Drawn0.refl _ | apply Drawn0.step)⟩
     ·rw [if_neg c5] at H
      have c5b0 : (((rd_T31 l0 x5_1).f0) == x1_1) = false := beq_eq_false_iff_ne.mpr c5
      have c5b1 : (((rd_T31 l0 x5_1).f0) != x1_1) = true := bne_iff_ne.mpr c5
      obtain rfl := Option.some.inj H
      have p470 : 0 ≤ (x5_1 : Int) := of_decide_eq_true (by first | (with_reducible assumption) | assumption)
      have q470 : x5_1 < (l0.length : Int) := of_decide_eq_true (by first | (with_reducible assumption) | assumption)
      obtain ⟨ad470, e470, hx470_0, hx470_1⟩ := at_T31 HR0.out x5_1 p470 q470
      cases e470
      replace p470 := eq_true p470
      replace q470 := eq_true q470
      go_wp2
      go_ret
      exact ⟨by first | rfl | (simp; done) | (simp [*]; done), by repeat (first | exact Drawn0.refl _ | apply Drawn0.step)⟩
    ·rw [if_neg c4] at H
     exact absurd H (by simp)
   ·rw [if_neg c3] at H
    have c3b0 : decide (x5_1 < (l0.length : Int)) = false := decide_eq_false c3
    clear c3
    obtain rfl := Option.some.inj H
    go_wp2
    go_ret
    exact ⟨by first | rfl | (simp; done) | (simp [*]; done), by repeat (first | exact Drawn0.refl _ | apply Drawn0.step)⟩

end Go.Proofs.Ytcepbgffnneagaa.Q
end

section
namespace Go.Proofs.Ytcepbgffnneagaa.Q
open Go.RowKit Go.Proofs.YtcepbgffnneagaaW.PrintWords Go.Proofs.YtcepbgffnneagaaW.PrintLast Go.Proofs.YtcepbgffnneagaaW.PrintMore
attribute [local go_sem] max2_int min2_int max_two min_two max_three min_three max_four min_four   -- for this text's walks alone
set_option linter.unusedVariables false
set_option linter.unusedSimpArgs false

mutual
noncomputable def laws_FnExactGraphDensities.j0 : Nat → Int → List (S31) → Int → List (S31) → Bool → Int → Int → Option (Bool)
 | 0, _, _, _, _, _, _, _ => none
 | k + 1, x0, x5, x6, x7, x35, x473000, x473001 => if x35 = true then (some false) else ((laws_markFractionS.f k x7 1).bind fun bt486 => ((laws_heldFractionS.f k bt486.2 1).bind fun t488 => (if t488 < 0 then (some false) else (if t488 = bt486.1 then ((laws_toGraph.f x473000 x473001).bind fun bt489 => ((impl_GraphDensities.f k x0 bt489.1 bt489.2).bind fun bt491 => ((laws_eqFractionS.f k bt491.1 x5).bind fun t495 => (if t495 = true then (laws_FnExactGraphDensities.j1 k bt486.2 bt486.1 (bt491.2 != x6)) else (laws_FnExactGraphDensities.j1 k bt486.2 bt486.1 true))))) else (some false)))))
noncomputable def laws_FnExactGraphDensities.j1 : Nat → List (S31) → Int → Bool → Option (Bool)
 | 0, _, _, _ => none
 | k + 1, x7, x9, x62 => if x62 = true then (some false) else ((laws_heldFractionS.f k x7 1).bind fun t496 => (if t496 < 0 then (some false) else (if t496 = x9 then (some true) else (some false))))
end
noncomputable def laws_FnExactGraphDensities.f (k : Nat) (a0 : Int) (a1_0 : Int) (a1_1 : Int) : Option (Bool) := (laws_toGraph.f a1_0 a1_1).bind fun bt473 => ((spec_GraphDensities.f k a0 bt473.1 bt473.2).bind fun bt475 => ((laws_toGraph.f a1_0 a1_1).bind fun bt479 => ((impl_GraphDensities.f k a0 bt479.1 bt479.2).bind fun bt481 => ((laws_eqFractionS.f k bt481.1 bt475.1).bind fun t485 => (if t485 = true then (laws_FnExactGraphDensities.j0 k a0 bt475.1 bt475.2 bt481.1 (bt481.2 != bt475.2) a1_0 a1_1) else (laws_FnExactGraphDensities.j0 k a0 bt475.1 bt475.2 bt481.1 true a1_0 a1_1))))))
theorem laws_FnExactGraphDensities.j0_no (k : Nat) (x0 : Int) (x5 : List (S31)) (x6 : Int) (x7 : List (S31)) (x473000 : Int) (x473001 : Int) : laws_FnExactGraphDensities.j0 k x0 x5 x6 x7 true x473000 x473001 ≠ some true := by cases k <;> simp [laws_FnExactGraphDensities.j0]
theorem laws_FnExactGraphDensities.j1_no (k : Nat) (x7 : List (S31)) (x9 : Int) : laws_FnExactGraphDensities.j1 k x7 x9 true ≠ some true := by cases k <;> simp [laws_FnExactGraphDensities.j1]
set_option maxHeartbeats 8000000 in
set_option maxRecDepth 100000 in
theorem laws_FnExactGraphDensities.calls (k : Nat) (a0 : Int) (a1_0 : Int) (a1_1 : Int) (r : Bool) (w : World) (h : laws_FnExactGraphDensities.f k a0 a1_0 a1_1 = some true) :
  Calls Try.prog 5 #[.int .i64 a0, .agg #[.int .i64 a1_0, .int .u32 a1_1]] w fun e w' => e = .returned (.bool true) ∧ Below w.heap.size w w' := by
 have hu24 := Try.underlying24
 have HB := Aside0.mk (Below.refl w.heap.size w)
 have H : ((laws_toGraph.f a1_0 a1_1).bind fun bt473 => ((spec_GraphDensities.f k a0 bt473.1 bt473.2).bind fun bt475 => ((laws_toGraph.f a1_0 a1_1).bind fun bt479 => ((impl_GraphDensities.f k a0 bt479.1 bt479.2).bind fun bt481 => ((laws_eqFractionS.f k bt481.1 bt475.1).bind fun t485 => (if t485 = true then (laws_FnExactGraphDensities.j0 k a0 bt475.1 bt475.2 bt481.1 (bt481.2 != bt475.2) a1_0 a1_1) else (laws_FnExactGraphDensities.j0 k a0 bt475.1 bt475.2 bt481.1 true a1_0 a1_1))))))) = some true := h
 clear h
 replace H := Option.bind_eq_some_iff.mp H
 obtain ⟨⟨t473, t474⟩, A30, H⟩ := H
 replace H : ((spec_GraphDensities.f k a0 t473 t474).bind fun bt475 => ((laws_toGraph.f a1_0 a1_1).bind fun bt479 => ((impl_GraphDensities.f k a0 bt479.1 bt479.2).bind fun bt481 => ((laws_eqFractionS.f k bt481.1 bt475.1).bind fun t485 => (if t485 = true then (laws_FnExactGraphDensities.j0 k a0 bt475.1 bt475.2 bt481.1 (bt481.2 != bt475.2) a1_0 a1_1) else (laws_FnExactGraphDensities.j0 k a0 bt475.1 bt475.2 bt481.1 true a1_0 a1_1)))))) = some true := H
 have A3 := Aside0.mk A30
 clear A30
 replace H := Option.bind_eq_some_iff.mp H
 obtain ⟨⟨t475, t478⟩, A40, H⟩ := H
 replace H : ((laws_toGraph.f a1_0 a1_1).bind fun bt479 => ((impl_GraphDensities.f k a0 bt479.1 bt479.2).bind fun bt481 => ((laws_eqFractionS.f k bt481.1 t475).bind fun t485 => (if t485 = true then (laws_FnExactGraphDensities.j0 k a0 t475 t478 bt481.1 (bt481.2 != t478) a1_0 a1_1) else (laws_FnExactGraphDensities.j0 k a0 t475 t478 bt481.1 true a1_0 a1_1))))) = some true := H
 have A4 := Aside0.mk A40
 clear A40
 replace H := Option.bind_eq_some_iff.mp H
 obtain ⟨⟨t479, t480⟩, A50, H⟩ := H
 replace H : ((impl_GraphDensities.f k a0 t479 t480).bind fun bt481 => ((laws_eqFractionS.f k bt481.1 t475).bind fun t485 => (if t485 = true then (laws_FnExactGraphDensities.j0 k a0 t475 t478 bt481.1 (bt481.2 != t478) a1_0 a1_1) else (laws_FnExactGraphDensities.j0 k a0 t475 t478 bt481.1 true a1_0 a1_1)))) = some true := H
 have A5 := Aside0.mk A50
 clear A50
 replace H := Option.bind_eq_some_iff.mp H
 obtain ⟨⟨t481, t484⟩, A60, H⟩ := H
 replace H : ((laws_eqFractionS.f k t481 t475).bind fun t485 => (if t485 = true then (laws_FnExactGraphDensities.j0 k a0 t475 t478 t481 (t484 != t478) a1_0 a1_1) else (laws_FnExactGraphDensities.j0 k a0 t475 t478 t481 true a1_0 a1_1))) = some true := H
 have A6 := Aside0.mk A60
 clear A60
 have HC7 := Aside0.mk H
 clear H
 go_enter Try.func5, Try.ntmps5
 go_upto_region 3 with (first | ((with_reducible refine gate_dst (N := 3) rfl ?_); refine box_event ?hg (N := 3) ?hd (cs := #[.int .i64 a1_0, .int .u32 a1_1]) (t := 24) ?hr ?_; (case hd => rfl); (case hg => rfl); (case hr => first | (go_simp; done) | (go_simp; rfl)); intro gb472 hg w8 hbox hb; have n0_ := Aside0.mk (below_step (by repeat (first | (with_reducible first | exact HB.out | apply below_alloc | apply pw_below_drewN | apply below_drew1) | exact HB.out)) hb); have n1_ := Aside0.mk (hbox); have n2_ := Aside0.mk ((by rw [hg]; exact (below_size (by repeat (first | (with_reducible first | exact HB.out | apply below_alloc | apply pw_below_drewN | apply below_drew1) | exact HB.out))) : w.heap.size ≤ gb472)); have n3_ := n2_; clear HB; have HB := n0_; have BK472 := n1_; have GW472 := n2_; have GE472 := n3_; clear n0_ n1_ n2_ n3_; clear hb hbox hg; have hcz9_0 : w8.cell? ⟨gb472, 0, none⟩ = some (.int .i64 a1_0) := (blk_cell BK472.out 0).trans rfl; have hcz9_1 : w8.cell? ⟨gb472, 1, none⟩ = some (.int .u32 a1_1) := (blk_cell BK472.out 1).trans rfl; have hfz9_0 := blk_frozen BK472.out 0; have hfz9_1 := blk_frozen BK472.out 1) | ((with_reducible refine gate_callee (f := 14) rfl ?_); refine goesL_ (some 16) rfl rfl Try.func14 (by kernel_rfl) rfl #[.agg #[.int .i64 a1_0, .int .u32 a1_1]] rfl (by (try simp only [List.map_toArray, List.map_cons, List.map_nil]); first | done | rfl | (simp only [List.length_drop, List.length_take]; rfl)) ?_; (with_reducible refine (laws_toGraph.calls a1_0 a1_1 t473 t474 _ A3.out).mono ?_); rintro e w10 ⟨rfl, hb⟩; refine ⟨_, rfl, ?_⟩; have n0_ := Aside0.mk (blk_below (g := gb472) (o := .cells #[.int .i64 a1_0, .int .u32 a1_1] 24 (0, 0)) (by (with_reducible repeat (first | refine blk_drewN ?_ _ | refine blk_drew ?_ | refine blk_alloc ?_ _)); exact BK472.out) hb); have n1_ := Aside0.mk (below_step (by repeat (first | (with_reducible first | exact HB.out | apply below_alloc | apply pw_below_drewN | apply below_drew1 | refine below_set ?_ GE472.out) | exact HB.out)) hb); clear BK472; clear HB; have BK472 := n0_; have HB := n1_; clear n0_ n1_; (try clear hb); (try clear hb2); (try clear hk); (try clear hi)) | ((with_reducible refine gate_callee (f := 19) rfl ?_); refine goesL_ (some 17) rfl rfl Try.func19 (by kernel_rfl) rfl #[.int .i64 a0, .agg #[.int .i64 t473, .int .u32 t474]] rfl (by (try simp only [List.map_toArray, List.map_cons, List.map_nil]); first | done | rfl | (simp only [List.length_drop, List.length_take]; rfl)) ?_; (with_reducible refine (spec_GraphDensities.calls k a0 t473 t474 t475 t478 _ A4.out).mono ?_); rintro e w11 ⟨v476, rfl, ho0, hb⟩; refine ⟨_, rfl, ?_⟩; have n0_ := Aside0.mk (Kd.R_lower ho0 (below_size (by repeat (first | (with_reducible first | exact HB.out | apply below_alloc | apply pw_below_drewN | apply below_drew1 | refine below_set ?_ GE472.out) | exact HB.out)))); have n1_ := Aside0.mk (blk_below (g := gb472) (o := .cells #[.int .i64 a1_0, .int .u32 a1_1] 24 (0, 0)) (by (with_reducible repeat (first | refine blk_drewN ?_ _ | refine blk_drew ?_ | refine blk_alloc ?_ _)); exact BK472.out) hb); have n2_ := Aside0.mk (below_step (by repeat (first | (with_reducible first | exact HB.out | apply below_alloc | apply pw_below_drewN | apply below_drew1 | refine below_set ?_ GE472.out) | exact HB.out)) hb); clear BK472; clear HB; have HO477 := n0_; have BK472 := n1_; have HB := n2_; clear n0_ n1_ n2_; (try clear hb); (try clear hb2); (try clear hk); (try clear hi); (try clear ho0); have hcz12_0 : w11.cell? ⟨gb472, 0, none⟩ = some (.int .i64 a1_0) := (blk_cell BK472.out 0).trans rfl; have hcz12_1 : w11.cell? ⟨gb472, 1, none⟩ = some (.int .u32 a1_1) := (blk_cell BK472.out 1).trans rfl; have hfz12_0 := blk_frozen BK472.out 0; have hfz12_1 := blk_frozen BK472.out 1) | ((with_reducible refine gate_callee (f := 14) rfl ?_); refine goesL_ (some 23) rfl rfl Try.func14 (by kernel_rfl) rfl #[.agg #[.int .i64 a1_0, .int .u32 a1_1]] rfl (by (try simp only [List.map_toArray, List.map_cons, List.map_nil]); first | done | rfl | (simp only [List.length_drop, List.length_take]; rfl)) ?_; (with_reducible refine (laws_toGraph.calls a1_0 a1_1 t479 t480 _ A5.out).mono ?_); rintro e w13 ⟨rfl, hb⟩; refine ⟨_, rfl, ?_⟩; have n0_ := Aside0.mk (Kd.R_below (by (with_reducible repeat (first | apply Kd.R_alloc | apply Kd.R_drewN | apply Kd.R_drew)); exact HO477.out) hb); have n1_ := Aside0.mk (blk_below (g := gb472) (o := .cells #[.int .i64 a1_0, .int .u32 a1_1] 24 (0, 0)) (by (with_reducible repeat (first | refine blk_drewN ?_ _ | refine blk_drew ?_ | refine blk_alloc ?_ _)); exact BK472.out) hb); have n2_ := Aside0.mk (below_step (by repeat (first | (with_reducible first | exact HB.out | apply below_alloc | apply pw_below_drewN | apply below_drew1 | refine below_set ?_ GE472.out) | exact HB.out)) hb); clear HO477; clear BK472; clear HB; have HO477 := n0_; have BK472 := n1_; have HB := n2_; clear n0_ n1_ n2_; (try clear hb); (try clear hb2); (try clear hk); (try clear hi)) | ((with_reducible refine gate_callee (f := 20) rfl ?_); refine goesL_ (some 24) rfl rfl Try.func20 (by kernel_rfl) rfl #[.int .i64 a0, .agg #[.int .i64 t479, .int .u32 t480]] rfl (by (try simp only [List.map_toArray, List.map_cons, List.map_nil]); first | done | rfl | (simp only [List.length_drop, List.length_take]; rfl)) ?_; (with_reducible refine (impl_GraphDensities.calls k a0 t479 t480 t481 t484 _ A6.out).mono ?_); rintro e w14 ⟨v482, rfl, ho0, hb⟩; refine ⟨_, rfl, ?_⟩; have n0_ := Aside0.mk (Kd.R_elder' (by (with_reducible repeat (first | apply Kd.R_alloc | apply Kd.R_drewN | apply Kd.R_drew)); exact HO477.out) (Kd.R_base ho0) hb); have n1_ := Aside0.mk (Kd.R_lower (Kd.R_new' ho0 (Kd.R_lt (by (with_reducible repeat (first | apply Kd.R_alloc | apply Kd.R_drewN | apply Kd.R_drew)); exact HO477.out))) (below_size (by repeat (first | (with_reducible first | exact HB.out | apply below_alloc | apply pw_below_drewN | apply below_drew1 | refine below_set ?_ GE472.out) | exact HB.out)))); have n2_ := Aside0.mk (blk_below (g := gb472) (o := .cells #[.int .i64 a1_0, .int .u32 a1_1] 24 (0, 0)) (by (with_reducible repeat (first | refine blk_drewN ?_ _ | refine blk_drew ?_ | refine blk_alloc ?_ _)); exact BK472.out) hb); have n3_ := Aside0.mk (below_step (by repeat (first | (with_reducible first | exact HB.out | apply below_alloc | apply pw_below_drewN | apply below_drew1 | refine below_set ?_ GE472.out) | exact HB.out)) hb); clear HO477; clear BK472; clear HB; have HO477 := n0_; have HO483 := n1_; have BK472 := n2_; have HB := n3_; clear n0_ n1_ n2_ n3_; (try clear hb); (try clear hb2); (try clear hk); (try clear hi); (try clear ho0)))
 (try simp only [Act.put, List.setIfInBounds_toArray, List.set_cons_zero, List.set_cons_succ])
 go_cut [35] (fun v35 wc => ∃ (kq : Nat) (x35_6 : Bool), v35 = .bool x35_6 ∧ Aside0 (laws_FnExactGraphDensities.j0 kq a0 t475 t478 t481 x35_6 a1_0 a1_1 = some true) ∧ Aside0 (kq ≤ k) ∧ Aside0 (Kd.R k31 31 wc w.heap.size (fun k_ => some k_ ≠ (v482 : Value).ownBlock) v476 t475) ∧ Aside0 (Kd.R k31 31 wc w.heap.size (fun k_ => some k_ ≠ (v476 : Value).ownBlock) v482 t481) ∧ Aside0 (wc.heap[gb472]? = some (.cells #[.int .i64 a1_0, .int .u32 a1_1] 24 (0, 0))) ∧ Aside0 (Below w.heap.size w wc))
 case first =>
  have H := HC7.out
  clear HC7
  replace H := Option.bind_eq_some_iff.mp H
  obtain ⟨t485, A150, H⟩ := H
  replace H : (if t485 = true then (laws_FnExactGraphDensities.j0 k a0 t475 t478 t481 (t484 != t478) a1_0 a1_1) else (laws_FnExactGraphDensities.j0 k a0 t475 t478 t481 true a1_0 a1_1)) = some true := H
  have A15 := Aside0.mk A150
  clear A150
  by_cases c16 : t485 = true
  ·subst c16
   have H1 : (laws_FnExactGraphDensities.j0 k a0 t475 t478 t481 (t484 != t478) a1_0 a1_1) = some true := by rw [if_pos rfl] at H; exact H
   clear H
   have H := H1
   clear H1
   have H' := Aside0.mk H
   clear H
   obtain ⟨Ao17, co17, eo17⟩ := Kd.R_slice HO483.out
   subst eo17
   obtain ⟨Ao18, co18, eo18⟩ := Kd.R_slice HO477.out
   subst eo18
   go_wp2_with (first | ((with_reducible refine gate_callee (f := 21) rfl ?_); refine goesL_ (some 29) rfl rfl Try.func21 (by kernel_rfl) rfl #[.slice Ao17 t481.length co17, .slice Ao18 t475.length co18] rfl (by (try simp only [List.map_toArray, List.map_cons, List.map_nil]); first | done | rfl | (simp only [List.length_drop, List.length_take]; rfl)) ?_; (with_reducible refine (laws_eqFractionS.calls k _ _ t481 _ _ t475 true _ ?side1 ?side2 ?side3 ?side4 A15.out).mono ?_); (case side1 => repeat (first | exact (Kd.R_reads' HO483.out).2.2 | (with_reducible refine Kd.C_alloc ?_ _) | (with_reducible refine Kd.C_drewN ?_ _) | (with_reducible refine Kd.C_drew ?_))); (case side2 => exact (Kd.R_reads' HO483.out).2.1); (case side3 => repeat (first | exact (Kd.R_reads' HO477.out).2.2 | (with_reducible refine Kd.C_alloc ?_ _) | (with_reducible refine Kd.C_drewN ?_ _) | (with_reducible refine Kd.C_drew ?_))); (case side4 => exact (Kd.R_reads' HO477.out).2.1); rintro e w19 ⟨rfl, hb⟩; refine ⟨_, rfl, ?_⟩; have n0_ := Aside0.mk (Kd.R_below (by (with_reducible repeat (first | apply Kd.R_alloc | apply Kd.R_drewN | apply Kd.R_drew)); exact HO477.out) hb); have n1_ := Aside0.mk (Kd.R_below (by (with_reducible repeat (first | apply Kd.R_alloc | apply Kd.R_drewN | apply Kd.R_drew)); exact HO483.out) hb); have n2_ := Aside0.mk (blk_below (g := gb472) (o := .cells #[.int .i64 a1_0, .int .u32 a1_1] 24 (0, 0)) (by (with_reducible repeat (first | refine blk_drewN ?_ _ | refine blk_drew ?_ | refine blk_alloc ?_ _)); exact BK472.out) hb); have n3_ := Aside0.mk (below_step (by repeat (first | (with_reducible first | exact HB.out | apply below_alloc | apply pw_below_drewN | apply below_drew1 | refine below_set ?_ GE472.out) | exact HB.out)) hb); clear HO477; clear HO483; clear BK472; clear HB; have HO477 := n0_; have HO483 := n1_; have BK472 := n2_; have HB := n3_; clear n0_ n1_ n2_ n3_; (try clear hb); (try clear hb2); (try clear hk); (try clear hi)))
   go_meet
   case rel => exact ⟨_, ((t484 != t478)), (by first | rfl | (simp; done) | (simp [*]; done)), H', ⟨by first | omega | exact Nat.le_refl _⟩, ⟨by (with_reducible repeat (first | apply Kd.R_alloc | apply Kd.R_drewN | apply Kd.R_drew)); exact Kd.R_mono HO477.out (fun _ hk => hk.2)⟩, ⟨by (with_reducible repeat (first | apply Kd.R_alloc | apply Kd.R_drewN | apply Kd.R_drew)); exact Kd.R_mono HO483.out (fun _ hk => hk.2)⟩, ⟨by (with_reducible repeat (first | refine blk_drewN ?_ _ | refine blk_drew ?_ | refine blk_alloc ?_ _)); exact BK472.out⟩, ⟨by repeat (first | (with_reducible first | exact HB.out | apply below_alloc | apply pw_below_drewN | apply below_drew1 | refine below_set ?_ GE472.out) | exact HB.out)⟩⟩
  ·replace c16 := Bool.eq_false_iff.mpr c16
   subst c16
   have H1 : (laws_FnExactGraphDensities.j0 k a0 t475 t478 t481 true a1_0 a1_1) = some true := by rw [if_neg (show ¬ (false = true) by decide)] at H; exact H
   clear H
   have H := H1
   clear H1
   exact absurd H (by apply laws_FnExactGraphDensities.j0_no)
 case rest =>
  clear HC7
  try clear c1
  try clear c2
  try clear p2
  try clear c5
  try clear c14
  try clear c16
  try clear c19
  try clear c20
  try clear c21
  try clear hcz12_0
  try clear hcz12_1
  try clear hcz9_0
  try clear hcz9_1
  try clear hfz12_0
  try clear hfz12_1
  try clear hfz9_0
  try clear hfz9_1
  obtain ⟨kq, x35_6, rfl, HA, HJ6, HO_5, HO_7, BK472, HB⟩ := hcut
  cases kq with
  | zero => exact absurd HA.out (by simp [laws_FnExactGraphDensities.j0])
  | succ kj6 =>
   have H := HA.out
   clear HA
   simp only [laws_FnExactGraphDensities.j0] at H
   by_cases c23 : x35_6 = true
   ·subst c23
    have H1 : (some false) = some true := by rw [if_pos rfl] at H; exact H
    clear H
    have H := H1
    clear H1
    exact absurd H (by simp)
   ·replace c23 := Bool.eq_false_iff.mpr c23
    subst c23
    have H1 : ((laws_markFractionS.f kj6 t481 1).bind fun bt486 => ((laws_heldFractionS.f kj6 bt486.2 1).bind fun t488 => (if t488 < 0 then (some false) else (if t488 = bt486.1 then ((laws_toGraph.f a1_0 a1_1).bind fun bt489 => ((impl_GraphDensities.f kj6 a0 bt489.1 bt489.2).bind fun bt491 => ((laws_eqFractionS.f kj6 bt491.1 t475).bind fun t495 => (if t495 = true then (laws_FnExactGraphDensities.j1 kj6 bt486.2 bt486.1 (bt491.2 != t478)) else (laws_FnExactGraphDensities.j1 kj6 bt486.2 bt486.1 true))))) else (some false))))) = some true := by rw [if_neg (show ¬ (false = true) by decide)] at H; exact H
    clear H
    have H := H1
    clear H1
    replace H := Option.bind_eq_some_iff.mp H
    obtain ⟨⟨t486, t487⟩, A240, H⟩ := H
    replace H : ((laws_heldFractionS.f kj6 t487 1).bind fun t488 => (if t488 < 0 then (some false) else (if t488 = t486 then ((laws_toGraph.f a1_0 a1_1).bind fun bt489 => ((impl_GraphDensities.f kj6 a0 bt489.1 bt489.2).bind fun bt491 => ((laws_eqFractionS.f kj6 bt491.1 t475).bind fun t495 => (if t495 = true then (laws_FnExactGraphDensities.j1 kj6 t487 t486 (bt491.2 != t478)) else (laws_FnExactGraphDensities.j1 kj6 t487 t486 true))))) else (some false)))) = some true := H
    have A24 := Aside0.mk A240
    clear A240
    replace H := Option.bind_eq_some_iff.mp H
    obtain ⟨t488, A250, H⟩ := H
    replace H : (if t488 < 0 then (some false) else (if t488 = t486 then ((laws_toGraph.f a1_0 a1_1).bind fun bt489 => ((impl_GraphDensities.f kj6 a0 bt489.1 bt489.2).bind fun bt491 => ((laws_eqFractionS.f kj6 bt491.1 t475).bind fun t495 => (if t495 = true then (laws_FnExactGraphDensities.j1 kj6 t487 t486 (bt491.2 != t478)) else (laws_FnExactGraphDensities.j1 kj6 t487 t486 true))))) else (some false))) = some true := H
    have A25 := Aside0.mk A250
    clear A250
    by_cases c26 : t488 < 0
    ·rw [if_pos c26] at H
     have c26b0 : decide (t488 < 0) = true := decide_eq_true c26
     clear c26
     exact absurd H (by simp)
    ·rw [if_neg c26] at H
     have c26b0 : decide (t488 < 0) = false := decide_eq_false c26
     clear c26
     by_cases c29 : t488 = t486
     ·rw [if_pos c29] at H
      have c29b0 : (t488 == t486) = true := beq_iff_eq.mpr c29
      have c29b1 : (t488 != t486) = false := bne_eq_false_iff_eq.mpr c29
      clear c29
      replace H := Option.bind_eq_some_iff.mp H
      obtain ⟨⟨t489, t490⟩, A300, H⟩ := H
      replace H : ((impl_GraphDensities.f kj6 a0 t489 t490).bind fun bt491 => ((laws_eqFractionS.f kj6 bt491.1 t475).bind fun t495 => (if t495 = true then (laws_FnExactGraphDensities.j1 kj6 t487 t486 (bt491.2 != t478)) else (laws_FnExactGraphDensities.j1 kj6 t487 t486 true)))) = some true := H
      have A30 := Aside0.mk A300
      clear A300
      replace H := Option.bind_eq_some_iff.mp H
      obtain ⟨⟨t491, t494⟩, A310, H⟩ := H
      replace H : ((laws_eqFractionS.f kj6 t491 t475).bind fun t495 => (if t495 = true then (laws_FnExactGraphDensities.j1 kj6 t487 t486 (t494 != t478)) else (laws_FnExactGraphDensities.j1 kj6 t487 t486 true))) = some true := H
      have A31 := Aside0.mk A310
      clear A310
      have HC32 := Aside0.mk H
      clear H
      obtain ⟨Ao33, co33, eo33⟩ := Kd.R_slice HO_7.out
      subst eo33
      go_upto_region 14 with (first | ((with_reducible refine gate_callee (f := 22) rfl ?_); refine goesL_ (some 38) rfl rfl Try.func22 (by kernel_rfl) rfl #[.slice Ao33 t481.length co33, .int .i64 1] rfl (by (try simp only [List.map_toArray, List.map_cons, List.map_nil]); first | done | rfl | (simp only [List.length_drop, List.length_take]; rfl)) ?_; (with_reducible refine (laws_markFractionS.calls kj6 (fun k_ => some k_ = (.slice Ao33 t481.length co33 : Value).ownBlock) (.slice Ao33 t481.length co33) t481 1 t486 t487 w _ ?side1 ?side2 A24.out).mono ?_); (case side1 => repeat (first | (with_reducible first | exact HB.out | apply below_alloc | apply pw_below_drewN | apply below_drew1 | refine below_set ?_ GE472.out) | exact HB.out)); (case side2 => exact Kd.R_tight rfl HO_7.out); rintro e w34 ⟨rfl, hy0, hb, hkp⟩; refine ⟨_, rfl, ?_⟩; have n0_ := Aside0.mk (Kd.R_mono (ok' := fun k_ => some k_ ≠ (.slice Ao33 t481.length co33 : Value).ownBlock) (Kd.R_keptB (HO_5.out) hkp (fun k_ hk_ hs_ => (hk_) hs_)) (fun k_ hk_ => hk_.1)); have n1_ := Aside0.mk (Kd.R_reok rfl hy0 (fun k_ e_ => HO_7.out.1 k_ e_)); have n2_ := Aside0.mk (blk_kept (by (with_reducible repeat (first | refine blk_drewN ?_ _ | refine blk_drew ?_ | refine blk_alloc ?_ _)); exact BK472.out) hkp (fun hs_ => (fun e_ => (Kd.R_ne HO_7.out BK472.out (by decide)) e_) hs_)); have n3_ := Aside0.mk (hb); clear HO_5; clear HO_7; clear BK472; clear HB; have HO_5 := n0_; have HO_7 := n1_; have BK472 := n2_; have HB := n3_; clear n0_ n1_ n2_ n3_; (try clear hb); (try clear hkp); (try clear hy0)) | ((with_reducible refine gate_callee (f := 23) rfl ?_); refine goesL_ (some 41) rfl rfl Try.func23 (by kernel_rfl) rfl #[.slice Ao33 t487.length co33, .int .i64 1] rfl (by (try simp only [List.map_toArray, List.map_cons, List.map_nil]); first | done | (rw [show t487.length = t481.length from (Kd.R_reads' HO_7.out).1.symm] <;> rfl) | rfl | (simp only [List.length_drop, List.length_take]; rfl)) ?_; (with_reducible refine (laws_heldFractionS.calls kj6 _ _ t487 1 t488 _ ?side1 ?side2 A25.out).mono ?_); (case side1 => repeat (first | exact (Kd.R_reads' HO_7.out).2.2 | (with_reducible refine Kd.C_alloc ?_ _) | (with_reducible refine Kd.C_drewN ?_ _) | (with_reducible refine Kd.C_drew ?_))); (case side2 => rw [show t487.length = t481.length from (Kd.R_reads' HO_7.out).1.symm]; exact (Kd.R_reads' HO_7.out).2.1); rintro e w' ⟨rfl, ⟨nd, rfl⟩⟩; refine ⟨_, rfl, ?_⟩; have hcz35_0 : w34.cell? ⟨gb472, 0, none⟩ = some (.int .i64 a1_0) := (blk_cell BK472.out 0).trans rfl; have hcz35_1 : w34.cell? ⟨gb472, 1, none⟩ = some (.int .u32 a1_1) := (blk_cell BK472.out 1).trans rfl; have hfz35_0 := blk_frozen BK472.out 0; have hfz35_1 := blk_frozen BK472.out 1) | ((with_reducible refine gate_callee (f := 14) rfl ?_); refine goesL_ (some 50) rfl rfl Try.func14 (by kernel_rfl) rfl #[.agg #[.int .i64 a1_0, .int .u32 a1_1]] rfl (by (try simp only [List.map_toArray, List.map_cons, List.map_nil]); first | done | rfl | (simp only [List.length_drop, List.length_take]; rfl)) ?_; (with_reducible refine (laws_toGraph.calls a1_0 a1_1 t489 t490 _ A30.out).mono ?_); rintro e w36 ⟨rfl, hb⟩; refine ⟨_, rfl, ?_⟩; have n0_ := Aside0.mk (Kd.R_below (by (with_reducible repeat (first | apply Kd.R_alloc | apply Kd.R_drewN | apply Kd.R_drew)); exact HO_5.out) hb); have n1_ := Aside0.mk (Kd.R_below (by (with_reducible repeat (first | apply Kd.R_alloc | apply Kd.R_drewN | apply Kd.R_drew)); exact HO_7.out) hb); have n2_ := Aside0.mk (blk_below (g := gb472) (o := .cells #[.int .i64 a1_0, .int .u32 a1_1] 24 (0, 0)) (by (with_reducible repeat (first | refine blk_drewN ?_ _ | refine blk_drew ?_ | refine blk_alloc ?_ _)); exact BK472.out) hb); have n3_ := Aside0.mk (below_step (by repeat (first | (with_reducible first | exact HB.out | apply below_alloc | apply pw_below_drewN | apply below_drew1 | refine below_set ?_ GE472.out) | exact HB.out)) hb); clear HO_5; clear HO_7; clear BK472; clear HB; have HO_5 := n0_; have HO_7 := n1_; have BK472 := n2_; have HB := n3_; clear n0_ n1_ n2_ n3_; (try clear hb); (try clear hb2); (try clear hk); (try clear hi)) | ((with_reducible refine gate_callee (f := 20) rfl ?_); refine goesL_ (some 51) rfl rfl Try.func20 (by kernel_rfl) rfl #[.int .i64 a0, .agg #[.int .i64 t489, .int .u32 t490]] rfl (by (try simp only [List.map_toArray, List.map_cons, List.map_nil]); first | done | rfl | (simp only [List.length_drop, List.length_take]; rfl)) ?_; (with_reducible refine (impl_GraphDensities.calls kj6 a0 t489 t490 t491 t494 _ A31.out).mono ?_); rintro e w37 ⟨v492, rfl, ho0, hb⟩; refine ⟨_, rfl, ?_⟩; have n0_ := Aside0.mk (Kd.R_elder' (by (with_reducible repeat (first | apply Kd.R_alloc | apply Kd.R_drewN | apply Kd.R_drew)); exact HO_5.out) (Kd.R_base ho0) hb); have n1_ := Aside0.mk (Kd.R_elder' (by (with_reducible repeat (first | apply Kd.R_alloc | apply Kd.R_drewN | apply Kd.R_drew)); exact HO_7.out) (Kd.R_base ho0) hb); have n2_ := Aside0.mk (Kd.R_lower (Kd.R_new' (Kd.R_new' ho0 (Kd.R_lt (by (with_reducible repeat (first | apply Kd.R_alloc | apply Kd.R_drewN | apply Kd.R_drew)); exact HO_5.out))) (Kd.R_lt (by (with_reducible repeat (first | apply Kd.R_alloc | apply Kd.R_drewN | apply Kd.R_drew)); exact HO_7.out))) (below_size (by repeat (first | (with_reducible first | exact HB.out | apply below_alloc | apply pw_below_drewN | apply below_drew1 | refine below_set ?_ GE472.out) | exact HB.out)))); have n3_ := Aside0.mk (blk_below (g := gb472) (o := .cells #[.int .i64 a1_0, .int .u32 a1_1] 24 (0, 0)) (by (with_reducible repeat (first | refine blk_drewN ?_ _ | refine blk_drew ?_ | refine blk_alloc ?_ _)); exact BK472.out) hb); have n4_ := Aside0.mk (below_step (by repeat (first | (with_reducible first | exact HB.out | apply below_alloc | apply pw_below_drewN | apply below_drew1 | refine below_set ?_ GE472.out) | exact HB.out)) hb); clear HO_5; clear HO_7; clear BK472; clear HB; have HO_5 := n0_; have HO_7 := n1_; have HO493 := n2_; have BK472 := n3_; have HB := n4_; clear n0_ n1_ n2_ n3_ n4_; (try clear hb); (try clear hb2); (try clear hk); (try clear hi); (try clear ho0)))
      (try simp only [Act.put, List.setIfInBounds_toArray, List.set_cons_zero, List.set_cons_succ])
      go_cut [62] (fun v62 wc => ∃ (kq : Nat) (x62_31 : Bool), v62 = .bool x62_31 ∧ Aside0 (laws_FnExactGraphDensities.j1 kq t487 t486 x62_31 = some true) ∧ Aside0 (kq ≤ kj6) ∧ Aside0 (Kd.R k31 31 wc w.heap.size (fun _ => True) (.slice Ao33 t481.length co33) t487) ∧ Aside0 (wc.heap[gb472]? = some (.cells #[.int .i64 a1_0, .int .u32 a1_1] 24 (0, 0))) ∧ Aside0 (Below w.heap.size w wc))
      case first =>
       have H := HC32.out
       clear HC32
       replace H := Option.bind_eq_some_iff.mp H
       obtain ⟨t495, A380, H⟩ := H
       replace H : (if t495 = true then (laws_FnExactGraphDensities.j1 kj6 t487 t486 (t494 != t478)) else (laws_FnExactGraphDensities.j1 kj6 t487 t486 true)) = some true := H
       have A38 := Aside0.mk A380
       clear A380
       by_cases c39 : t495 = true
       ·subst c39
        have H1 : (laws_FnExactGraphDensities.j1 kj6 t487 t486 (t494 != t478)) = some true := by rw [if_pos rfl] at H; exact H
        clear H
        have H := H1
        clear H1
        have H' := Aside0.mk H
        clear H
        obtain ⟨Ao40, co40, eo40⟩ := Kd.R_slice HO493.out
        subst eo40
        obtain ⟨Ao41, co41, eo41⟩ := Kd.R_slice HO_5.out
        subst eo41
        go_wp2_with (first | ((with_reducible refine gate_callee (f := 21) rfl ?_); refine goesL_ (some 56) rfl rfl Try.func21 (by kernel_rfl) rfl #[.slice Ao40 t491.length co40, .slice Ao41 t475.length co41] rfl (by (try simp only [List.map_toArray, List.map_cons, List.map_nil]); first | done | rfl | (simp only [List.length_drop, List.length_take]; rfl)) ?_; (with_reducible refine (laws_eqFractionS.calls kj6 _ _ t491 _ _ t475 true _ ?side1 ?side2 ?side3 ?side4 A38.out).mono ?_); (case side1 => repeat (first | exact (Kd.R_reads' HO493.out).2.2 | (with_reducible refine Kd.C_alloc ?_ _) | (with_reducible refine Kd.C_drewN ?_ _) | (with_reducible refine Kd.C_drew ?_))); (case side2 => exact (Kd.R_reads' HO493.out).2.1); (case side3 => repeat (first | exact (Kd.R_reads' HO_5.out).2.2 | (with_reducible refine Kd.C_alloc ?_ _) | (with_reducible refine Kd.C_drewN ?_ _) | (with_reducible refine Kd.C_drew ?_))); (case side4 => exact (Kd.R_reads' HO_5.out).2.1); rintro e w42 ⟨rfl, hb⟩; refine ⟨_, rfl, ?_⟩; have n0_ := Aside0.mk (Kd.R_below (by (with_reducible repeat (first | apply Kd.R_alloc | apply Kd.R_drewN | apply Kd.R_drew)); exact HO_5.out) hb); have n1_ := Aside0.mk (Kd.R_below (by (with_reducible repeat (first | apply Kd.R_alloc | apply Kd.R_drewN | apply Kd.R_drew)); exact HO_7.out) hb); have n2_ := Aside0.mk (Kd.R_below (by (with_reducible repeat (first | apply Kd.R_alloc | apply Kd.R_drewN | apply Kd.R_drew)); exact HO493.out) hb); have n3_ := Aside0.mk (blk_below (g := gb472) (o := .cells #[.int .i64 a1_0, .int .u32 a1_1] 24 (0, 0)) (by (with_reducible repeat (first | refine blk_drewN ?_ _ | refine blk_drew ?_ | refine blk_alloc ?_ _)); exact BK472.out) hb); have n4_ := Aside0.mk (below_step (by repeat (first | (with_reducible first | exact HB.out | apply below_alloc | apply pw_below_drewN | apply below_drew1 | refine below_set ?_ GE472.out) | exact HB.out)) hb); clear HO_5; clear HO_7; clear HO493; clear BK472; clear HB; have HO_5 := n0_; have HO_7 := n1_; have HO493 := n2_; have BK472 := n3_; have HB := n4_; clear n0_ n1_ n2_ n3_ n4_; (try clear hb); (try clear hb2); (try clear hk); (try clear hi)))
        go_meet
        case rel => exact ⟨_, ((t494 != t478)), (by first | rfl | (simp; done) | (simp [*]; done)), H', ⟨by have := HJ6.out; first | omega | exact Nat.le_refl _⟩, ⟨by (with_reducible repeat (first | apply Kd.R_alloc | apply Kd.R_drewN | apply Kd.R_drew)); exact Kd.R_mono HO_7.out (fun _ hk => trivial)⟩, ⟨by (with_reducible repeat (first | refine blk_drewN ?_ _ | refine blk_drew ?_ | refine blk_alloc ?_ _)); exact BK472.out⟩, ⟨by repeat (first | (with_reducible first | exact HB.out | apply below_alloc | apply pw_below_drewN | apply below_drew1 | refine below_set ?_ GE472.out) | exact HB.out)⟩⟩
       ·replace c39 := Bool.eq_false_iff.mpr c39
        subst c39
        have H1 : (laws_FnExactGraphDensities.j1 kj6 t487 t486 true) = some true := by rw [if_neg (show ¬ (false = true) by decide)] at H; exact H
        clear H
        have H := H1
        clear H1
        exact absurd H (by apply laws_FnExactGraphDensities.j1_no)
      case rest =>
       clear HC32
       try clear c1
       try clear c2
       try clear p2
       try clear c3
       try clear c5
       try clear c14
       try clear c16
       try clear c19
       try clear c20
       try clear c21
       try clear c22
       try clear c23
       try clear c26
       try clear c26b0
       try clear c29
       try clear c29b0
       try clear c29b1
       try clear c39
       try clear hcz12_0
       try clear hcz12_1
       try clear hcz35_0
       try clear hcz35_1
       try clear hcz9_0
       try clear hcz9_1
       try clear hfz12_0
       try clear hfz12_1
       try clear hfz35_0
       try clear hfz35_1
       try clear hfz9_0
       try clear hfz9_1
       try clear p2
       obtain ⟨kq, x62_31, rfl, HA, HJ31, HO_7, BK472, HB⟩ := hcut
       have hl7_31 := (Kd.R_reads' HO_7.out).1
       rw [hl7_31] at HO_7
       (try simp only [hl7_31])
       (try simp only [hl7_31] at BK472)
       cases kq with
       | zero => exact absurd HA.out (by simp [laws_FnExactGraphDensities.j1])
       | succ kj31 =>
        have H := HA.out
        clear HA
        simp only [laws_FnExactGraphDensities.j1] at H
        by_cases c46 : x62_31 = true
        ·subst c46
         have H1 : (some false) = some true := by rw [if_pos rfl] at H; exact H
         clear H
         have H := H1
         clear H1
         exact absurd H (by simp)
        ·replace c46 := Bool.eq_false_iff.mpr c46
         subst c46
         have H1 : ((laws_heldFractionS.f kj31 t487 1).bind fun t496 => (if t496 < 0 then (some false) else (if t496 = t486 then (some true) else (some false)))) = some true := by rw [if_neg (show ¬ (false = true) by decide)] at H; exact H
         clear H
         have H := H1
         clear H1
         replace H := Option.bind_eq_some_iff.mp H
         obtain ⟨t496, A470, H⟩ := H
         replace H : (if t496 < 0 then (some false) else (if t496 = t486 then (some true) else (some false))) = some true := H
         have A47 := Aside0.mk A470
         clear A470
         by_cases c48 : t496 < 0
         ·rw [if_pos c48] at H
          have c48b0 : decide (t496 < 0) = true := decide_eq_true c48
          clear c48
          exact absurd H (by simp)
         ·rw [if_neg c48] at H
          have c48b0 : decide (t496 < 0) = false := decide_eq_false c48
          clear c48
          by_cases c49 : t496 = t486
          ·rw [if_pos c49] at H
           have c49b0 : (t496 == t486) = true := beq_iff_eq.mpr c49
           have c49b1 : (t496 != t486) = false := bne_eq_false_iff_eq.mpr c49
           clear c49
           clear H
           go_wp2_with (first | ((with_reducible refine gate_callee (f := 23) rfl ?_); refine goesL_ (some 65) rfl rfl Try.func23 (by kernel_rfl) rfl #[.slice Ao33 t487.length co33, .int .i64 1] rfl (by (try simp only [List.map_toArray, List.map_cons, List.map_nil]); first | done | rfl | (simp only [List.length_drop, List.length_take]; rfl)) ?_; (with_reducible refine (laws_heldFractionS.calls kj31 _ _ t487 1 t496 _ ?side1 ?side2 A47.out).mono ?_); (case side1 => repeat (first | exact (Kd.R_reads' HO_7.out).2.2 | (with_reducible refine Kd.C_alloc ?_ _) | (with_reducible refine Kd.C_drewN ?_ _) | (with_reducible refine Kd.C_drew ?_))); (case side2 => exact (Kd.R_reads' HO_7.out).2.1); rintro e w' ⟨rfl, ⟨nd, rfl⟩⟩; refine ⟨_, rfl, ?_⟩))
           go_ret
           exact ⟨by first | rfl | (simp [errW_none, errW_some] <;> rfl) | (simp [*, errW_none, errW_some] <;> rfl), by repeat (first | (with_reducible first | exact HB.out | apply below_alloc | apply pw_below_drewN | apply below_drew1 | refine below_set ?_ GE472.out) | exact HB.out)⟩
          ·rw [if_neg c49] at H
           have c49b0 : (t496 == t486) = false := beq_eq_false_iff_ne.mpr c49
           have c49b1 : (t496 != t486) = true := bne_iff_ne.mpr c49
           exact absurd H (by simp)
     ·rw [if_neg c29] at H
      have c29b0 : (t488 == t486) = false := beq_eq_false_iff_ne.mpr c29
      have c29b1 : (t488 != t486) = true := bne_iff_ne.mpr c29
      exact absurd H (by simp)

end Go.Proofs.Ytcepbgffnneagaa.Q
end

section
namespace Go.Proofs.Ytcepbgffnneagaa.Q
open Go.RowKit Go.Proofs.YtcepbgffnneagaaW.PrintWords Go.Proofs.YtcepbgffnneagaaW.PrintLast Go.Proofs.YtcepbgffnneagaaW.PrintMore
attribute [local go_sem] max2_int min2_int max_two min_two max_three min_three max_four min_four   -- for this text's walks alone
set_option linter.unusedVariables false
set_option linter.unusedSimpArgs false

/-- All numbers of the list lie in 0 .. m and none occurs twice. -/
def allDiff (m : Int) (l : List Int) : Prop := l.Nodup ∧ ∀ x ∈ l, 0 ≤ x ∧ x ≤ m
instance (m : Int) (l : List Int) : Decidable (allDiff m l) := by unfold allDiff; infer_instance
end Go.Proofs.Ytcepbgffnneagaa.Q
end

section
namespace Go.Proofs.Ytcepbgffnneagaa.Q
open Go.RowKit Go.Proofs.YtcepbgffnneagaaW.PrintWords Go.Proofs.YtcepbgffnneagaaW.PrintLast Go.Proofs.YtcepbgffnneagaaW.PrintMore
attribute [local go_sem] max2_int min2_int max_two min_two max_three min_three max_four min_four   -- for this text's walks alone
set_option linter.unusedVariables false
set_option linter.unusedSimpArgs false

def leavesIn (g : List Int → List (List Int)) (l : List Int) : Nat → Nat → List (List Int)
  | 0, _ => []
  | d + 1, i => if (i : Int) ∈ l then leavesIn g l d (i + 1) else g (l ++ [(i : Int)]) ++ leavesIn g l d (i + 1)
/-- All lists of different numbers below n that go on from l by r places, in order. -/
def leaves (n : Nat) : Nat → List Int → List (List Int)
  | 0, l => [l]
  | r + 1, l => leavesIn (leaves n r) l n 0
def runCb {σ : Type} (cb : List Int → σ → Option (Bool × σ)) : List (List Int) → σ → Option (Bool × σ)
  | [], a => some (false, a)
  | l :: ls, a => (cb l a).bind fun p => if p.1 = true then some (true, p.2) else runCb cb ls p.2
theorem runCb_append {σ : Type} (cb : List Int → σ → Option (Bool × σ)) (y : List (List Int)) : ∀ (x : List (List Int)) (a : σ), runCb cb (x ++ y) a = (runCb cb x a).bind fun p => if p.1 = true then some (true, p.2) else runCb cb y p.2
  | [], a => rfl
  | l :: ls, a => by
    simp only [List.cons_append, runCb]
    cases h : cb l a with
    | none => rfl
    | some p =>
      simp only [Option.bind_some]
      by_cases hp : p.1 = true
      · rw [if_pos hp, if_pos hp]; rfl
      · rw [if_neg hp, if_neg hp]; exact runCb_append cb y ls p.2
theorem lstdIn_eq {σ : Type} (cb : List Int → σ → Option (Bool × σ)) (f : List Int → σ → Option (Bool × σ)) (g : List Int → List (List Int)) (hf : ∀ l a, f l a = runCb cb (g l) a) (l : List Int) : ∀ (d i : Nat) (a : σ), lstdIn f l d i a = runCb cb (leavesIn g l d i) a
  | 0, _, _ => rfl
  | d + 1, i, a => by
    rw [lstdIn, leavesIn]
    by_cases h : (i : Int) ∈ l
    · rw [if_pos h, if_pos h]; exact lstdIn_eq cb f g hf l d (i + 1) a
    · rw [if_neg h, if_neg h, runCb_append, hf]
      congr 1
      funext p
      by_cases hp : p.1 = true
      · rw [if_pos hp, if_pos hp]
      · rw [if_neg hp, if_neg hp]; exact lstdIn_eq cb f g hf l d (i + 1) p.2
theorem lstd_eq {σ : Type} (cb : List Int → σ → Option (Bool × σ)) (n : Nat) : ∀ (r : Nat) (l : List Int) (a : σ), lstd cb n r l a = runCb cb (leaves n r l) a
  | 0, l, a => by
    simp only [lstd, leaves, runCb]
    cases cb l a with
    | none => rfl
    | some p =>
      obtain ⟨b, a'⟩ := p
      cases b <;> rfl
  | r + 1, l, a => by
    rw [lstd, leaves]
    exact lstdIn_eq cb _ _ (fun l a => lstd_eq cb n r l a) l n 0 a
/-- A callback that only looks. -/
theorem runCb_any (cb : List Int → Option Bool) (p : List Int → Bool) : ∀ (L : List (List Int)), (∀ l ∈ L, cb l = some (p l)) → runCb (fun l (_ : Unit) => (cb l).map fun b => (b, ())) L () = some (L.any p, ())
  | [], _ => rfl
  | l :: ls, h => by
    simp only [runCb, h l (List.mem_cons_self), Option.map_some, Option.bind_some, List.any_cons]
    cases hp : p l
    · simp only [Bool.false_eq_true, if_false, Bool.false_or]
      exact runCb_any cb p ls fun x hx => h x (List.mem_cons_of_mem _ hx)
    · simp
end Go.Proofs.Ytcepbgffnneagaa.Q
end

section
namespace Go.Proofs.Ytcepbgffnneagaa.Q
open Go.RowKit Go.Proofs.YtcepbgffnneagaaW.PrintWords Go.Proofs.YtcepbgffnneagaaW.PrintLast Go.Proofs.YtcepbgffnneagaaW.PrintMore
attribute [local go_sem] max2_int min2_int max_two min_two max_three min_three max_four min_four   -- for this text's walks alone
set_option linter.unusedVariables false
set_option linter.unusedSimpArgs false

def isChain (n : Int) : List (List Int) → Bool
  | [] => true
  | x :: ls => match ls with
    | [] => match spec_l01Next.f 100 x n with | some (false, _) => true | _ => false
    | y :: _ => decide (spec_l01Next.f 100 x n = some (true, y)) && isChain n ls
theorem chains : ∀ n, n < 6 → ∀ r, r < n + 1 → (leaves n r []).head? = some (firstI r) ∧ isChain n (leaves n r []) = true := by decide +kernel
theorem leaves_ok : ∀ n, n < 6 → ∀ r, r < n + 1 → ∀ l ∈ leaves n r [], l.length = r ∧ allDiff ((n : Int) - 1) l := by decide +kernel
theorem next_ge {x : List Int} {n : Int} {p : Bool × List Int} (h : spec_l01Next.f 100 x n = some p) (k : Nat) (hk : 100 ≤ k) : spec_l01Next.f k x n = some p :=
  LeO_ge (F := fun k => spec_l01Next.f k x n) (fun k => spec_l01Next.mono x n k) hk _ h
theorem chain_one {n : Int} {x : List Int} (h : isChain n [x] = true) : ∃ y, ∀ k, 100 ≤ k → spec_l01Next.f k x n = some (false, y) := by
  simp only [isChain] at h
  split at h
  · next y e => exact ⟨y, fun k hk => next_ge e k hk⟩
  · cases h
theorem chain_cons {n : Int} {x y : List Int} {ls : List (List Int)} (h : isChain n (x :: y :: ls) = true) : (∀ k, 100 ≤ k → spec_l01Next.f k x n = some (true, y)) ∧ isChain n (y :: ls) = true := by
  rw [isChain] at h
  simp only [Bool.and_eq_true, decide_eq_true_eq] at h
  exact ⟨fun k hk => next_ge h.1 k hk, h.2⟩
theorem leaves_short : ∀ n, n < 6 → ∀ r, r < n + 1 → (leaves n r []).length ≤ 200 := by decide +kernel

end Go.Proofs.Ytcepbgffnneagaa.Q
end

section
namespace Go.Proofs.Ytcepbgffnneagaa.Q
open Go.RowKit Go.Proofs.YtcepbgffnneagaaW.PrintWords Go.Proofs.YtcepbgffnneagaaW.PrintLast Go.Proofs.YtcepbgffnneagaaW.PrintMore
attribute [local go_sem] max2_int min2_int max_two min_two max_three min_three max_four min_four   -- for this text's walks alone
set_option linter.unusedVariables false
set_option linter.unusedSimpArgs false

theorem allDiff_len {n : Int} (h0 : 0 ≤ n) (h5 : n ≤ 5) {l : List Int} (h : allDiff (wrap64 (n - 1)) l) : l.length ≤ n.toNat ∧ ∀ x ∈ l, 0 ≤ x ∧ x < n := by
  have hw : wrap64 (n - 1) = n - 1 := by unfold wrap64; omega
  rw [hw] at h
  have h2 : ∀ x ∈ l, 0 ≤ x ∧ x < n := fun x hx => by have := h.2 x hx; omega
  exact ⟨pigeon n.toNat l h.1 fun x hx => by have := h2 x hx; omega, h2⟩

end Go.Proofs.Ytcepbgffnneagaa.Q
end

section
namespace Go.Proofs.Ytcepbgffnneagaa.Q
open Go.RowKit Go.Proofs.YtcepbgffnneagaaW.PrintWords Go.Proofs.YtcepbgffnneagaaW.PrintLast Go.Proofs.YtcepbgffnneagaaW.PrintMore
attribute [local go_sem] max2_int min2_int max_two min_two max_three min_three max_four min_four   -- for this text's walks alone
set_option linter.unusedVariables false
set_option linter.unusedSimpArgs false

theorem l01Bit_eq (k : Nat) {i j : Int} (i0 : 0 ≤ i) (i4 : i ≤ 4) (j0 : 0 ≤ j) (j4 : j ≤ 4) : spec_l01Bit.f (k + 2) i j = some (bitI i j) := by
  rcases small4 i0 i4 with rfl | rfl | rfl | rfl | rfl <;> rcases small4 j0 j4 with rfl | rfl | rfl | rfl | rfl <;> kernel_rfl

end Go.Proofs.Ytcepbgffnneagaa.Q
end

section
namespace Go.Proofs.Ytcepbgffnneagaa.Q
open Go.RowKit Go.Proofs.YtcepbgffnneagaaW.PrintWords Go.Proofs.YtcepbgffnneagaaW.PrintLast Go.Proofs.YtcepbgffnneagaaW.PrintMore
attribute [local go_sem] max2_int min2_int max_two min_two max_three min_three max_four min_four   -- for this text's walks alone
set_option linter.unusedVariables false
set_option linter.unusedSimpArgs false

theorem joined_eq (k : Nat) (n e : Int) {i j : Int} (i0 : 0 ≤ i) (i4 : i ≤ 4) (j0 : 0 ≤ j) (j4 : j ≤ 4) (hij : i ≠ j) : spec_l01Joined.f (k + 2) n e i j = some (hasI e i j) := by
  unfold spec_l01Joined.f hasI
  rw [if_neg hij, l01Bit_eq k i0 i4 j0 j4]; rfl
theorem l01Bit_ge {k : Nat} (hk : 2 ≤ k) {i j : Int} (i0 : 0 ≤ i) (i4 : i ≤ 4) (j0 : 0 ≤ j) (j4 : j ≤ 4) : spec_l01Bit.f k i j = some (bitI i j) := by
  obtain ⟨q, rfl⟩ : ∃ q, k = q + 2 := ⟨k - 2, by omega⟩
  exact l01Bit_eq q i0 i4 j0 j4
theorem joined_ge {k : Nat} (hk : 2 ≤ k) (n e : Int) {i j : Int} (i0 : 0 ≤ i) (i4 : i ≤ 4) (j0 : 0 ≤ j) (j4 : j ≤ 4) (hij : i ≠ j) : spec_l01Joined.f k n e i j = some (hasI e i j) := by
  obtain ⟨q, rfl⟩ : ∃ q, k = q + 2 := ⟨k - 2, by omega⟩
  exact joined_eq q n e i0 i4 j0 j4 hij
theorem onS_row {l : List Int} {j : Nat} (n e0 : Int) (h5 : l.length ≤ 5) (h : ∀ i : Nat, i < l.length → 0 ≤ rd l i ∧ rd l i ≤ 4) (hne : ∀ i j : Nat, i < j → j < l.length → rd l i ≠ rd l j) (hj : j < l.length) (N : Int) :
    ∀ (d i : Nat) (e : Int) (k : Nat), i + d = j → d + 3 ≤ k → spec_l01On.l1 k l j i n e0 N e = spec_l01On.l0 (k - (d + 1)) l ((j + 1 : Nat) : Int) n e0 N (loopRow (fun i j => hasI e0 (rd l i) (rd l j)) j d i e)
  | 0, i, e, k, hd, hk => by
    have : i = j := by omega
    subst this
    obtain ⟨k, rfl⟩ : ∃ m, k = m + 1 := ⟨k - 1, by omega⟩
    simp only [spec_l01On.l1, loopRow]
    rw [if_neg (by omega), show wrap64 ((i : Int) + 1) = ((i + 1 : Nat) : Int) from by unfold wrap64; omega]; rfl
  | d + 1, i, e, k, hd, hk => by
    have hw : wrap64 ((i : Int) + 1) = ((i + 1 : Nat) : Int) := by unfold wrap64; omega
    have hi := h i (by omega)
    have hj' := h j hj
    obtain ⟨k, rfl⟩ : ∃ m, k = m + 1 := ⟨k - 1, by omega⟩
    simp only [spec_l01On.l1, loopRow]
    rw [if_pos (by omega), if_pos (by omega), if_pos (by omega), if_pos (by omega), if_pos (by omega), joined_ge (by omega) n e0 hi.1 hi.2 hj'.1 hj'.2 (hne i j (by omega) hj), hw, show k + 1 - (d + 1 + 1) = k - (d + 1) from by omega]
    simp only [Option.bind_some]
    by_cases hb : hasI e0 (rd l i) (rd l j) = true
    rotate_left
    · rw [if_neg hb, if_neg hb]
      exact onS_row n e0 h5 h hne hj N d (i + 1) e k (by omega) (by omega)
    · rw [if_pos hb, if_pos hb, l01Bit_ge (by omega) (by omega) (by omega) (by omega) (by omega)]
      simp only [Option.bind_some]
      exact onS_row n e0 h5 h hne hj N d (i + 1) _ k (by omega) (by omega)
theorem onS_all {l : List Int} (n e0 : Int) (h5 : l.length ≤ 5) (h : ∀ i : Nat, i < l.length → 0 ≤ rd l i ∧ rd l i ≤ 4) (hne : ∀ i j : Nat, i < j → j < l.length → rd l i ≠ rd l j) :
    ∀ (d j : Nat) (e : Int) (k : Nat), j + d = l.length → 7 * d + 3 ≤ k → spec_l01On.l0 k l j n e0 (l.length : Int) e = some ((l.length : Int), loopMade (fun i j => hasI e0 (rd l i) (rd l j)) d j e)
  | 0, j, e, k, hd, hk => by
    obtain ⟨k, rfl⟩ : ∃ m, k = m + 1 := ⟨k - 1, by omega⟩
    simp only [spec_l01On.l0, loopMade]
    rw [if_neg (by omega)]
  | d + 1, j, e, k, hd, hk => by
    obtain ⟨k, rfl⟩ : ∃ m, k = m + 1 := ⟨k - 1, by omega⟩
    simp only [spec_l01On.l0, loopMade]
    rw [if_pos (by omega)]
    have := onS_row n e0 h5 h hne (show j < l.length by omega) (l.length : Int) j 0 e k (by omega) (by omega)
    rw [show ((0 : Nat) : Int) = 0 from rfl] at this
    rw [this]
    exact onS_all n e0 h5 h hne d (j + 1) _ (k - (j + 1)) (by omega) (by omega)
theorem onS_eq (n e : Int) {l : List Int} (h5 : l.length ≤ 5) (h : ∀ i : Nat, i < l.length → 0 ≤ rd l i ∧ rd l i ≤ 4) (hne : ∀ i j : Nat, i < j → j < l.length → rd l i ≠ rd l j) (k : Nat) (hk : 40 ≤ k) :
    spec_l01On.f k n e l = some ((l.length : Int), onI e l) := by
  unfold spec_l01On.f onI madeI
  cases hl : l.length with
  | zero =>
    obtain ⟨k, rfl⟩ : ∃ m, k = m + 1 := ⟨k - 1, by omega⟩
    simp [spec_l01On.l0, loopMade]
  | succ m =>
    have := onS_all n e h5 h hne m 1 0 k (by omega) (by omega)
    rw [hl] at this
    rw [show ((1 : Nat) : Int) = 1 from rfl] at this
    rw [this]
    simp [loopMade, loopRow]

end Go.Proofs.Ytcepbgffnneagaa.Q
end

section
namespace Go.Proofs.Ytcepbgffnneagaa.Q
open Go.RowKit Go.Proofs.YtcepbgffnneagaaW.PrintWords Go.Proofs.YtcepbgffnneagaaW.PrintLast Go.Proofs.YtcepbgffnneagaaW.PrintMore
attribute [local go_sem] max2_int min2_int max_two min_two max_three min_three max_four min_four   -- for this text's walks alone
set_option linter.unusedVariables false
set_option linter.unusedSimpArgs false

theorem onS_diff (n e : Int) {m : Int} (h0 : 0 ≤ m) (h5 : m ≤ 5) {l : List Int} (h : allDiff (wrap64 (m - 1)) l) (k : Nat) (hk : 40 ≤ k) : spec_l01On.f k n e l = some ((l.length : Int), onI e l) := by
  have hl := allDiff_len h0 h5 h
  have hat : ∀ i : Nat, (hi : i < l.length) → 0 ≤ l[i] ∧ l[i] < m := fun i hi => hl.2 _ (List.getElem_mem hi)
  refine onS_eq n e (by omega) (fun i hi => ?_) (fun i j hij hj => ?_) k hk
  · rw [rd_of_lt l hi]; have := hat i hi; omega
  · rw [rd_of_lt l hj, rd_of_lt l (by omega)]
    exact List.pairwise_iff_getElem.1 h.1 i j (by omega) hj hij
theorem okList_diff {m : Int} (h0 : 0 ≤ m) (h5 : m ≤ 5) {l : List Int} (h : allDiff (wrap64 (m - 1)) l) : okList l := by
  have hl := allDiff_len h0 h5 h
  exact ⟨by omega, fun x hx => by have := hl.2 x hx; omega⟩

end Go.Proofs.Ytcepbgffnneagaa.Q
end

section
namespace Go.Proofs.Ytcepbgffnneagaa.Q
open Go.RowKit Go.Proofs.YtcepbgffnneagaaW.PrintWords Go.Proofs.YtcepbgffnneagaaW.PrintLast Go.Proofs.YtcepbgffnneagaaW.PrintMore
attribute [local go_sem] max2_int min2_int max_two min_two max_three min_three max_four min_four   -- for this text's walks alone
set_option linter.unusedVariables false
set_option linter.unusedSimpArgs false

def isLeastB (n s : Nat) (e : Int) : Bool := !(leaves n (n - s) (firstI s)).any fun l => decide (onI e l < e)
theorem isLeast_eq (n s : Nat) (hn : n < 6) (hs : s < n + 1) (e : Int) (hL : ∀ l ∈ leaves n (n - s) (firstI s), allDiff ((n : Int) - 1) l) : impl_Graph_isLeast.f n e s = some (isLeastB n s e) := by
  unfold impl_Graph_isLeast.f impl_Graph_orders.f
  rw [if_pos (by omega), lstd_eq, show ((n : Int) - (s : Int)).toNat = n - s from by omega, Int.toNat_natCast, Int.toNat_natCast]
  rw [runCb_any _ (fun l => decide (onI e l < e))]
  · rfl
  · intro l hl
    unfold impl_Graph_isLeast_1.f
    rw [impl_onT.eq n e (okList_diff (m := n) (by omega) (by omega) (by rw [show wrap64 ((n : Int) - 1) = (n : Int) - 1 from by unfold wrap64; omega]; exact hL l hl))]
    rfl
theorem isLeastS_loop (n : Nat) (hn : n < 6) (e : Int) : ∀ (ls : List (List Int)) (x : List Int) (k : Nat), isChain n (x :: ls) = true → (∀ l ∈ x :: ls, allDiff ((n : Int) - 1) l) → ls.length + 200 ≤ k →
    spec_l01IsLeast.l0 k x true n e = some (!(x :: ls).any fun l => decide (onI e l < e))
  | [], x, k, hc, hd, hk => by
    obtain ⟨k, rfl⟩ : ∃ q, k = q + 2 := ⟨k - 2, by omega⟩
    obtain ⟨y, hy⟩ := chain_one hc
    rw [spec_l01IsLeast.l0, if_pos rfl, onS_diff (m := n) n e (by omega) (by omega) (by rw [show wrap64 ((n : Int) - 1) = (n : Int) - 1 from by unfold wrap64; omega]; exact hd x (List.mem_cons_self)) _ (by omega)]
    simp only [Option.bind_some, List.any_cons, List.any_nil, Bool.or_false]
    by_cases hb : onI e x < e
    · rw [if_pos hb, decide_eq_true hb]; rfl
    · rw [if_neg hb, decide_eq_false hb, hy _ (by omega)]
      simp only [Option.bind_some]
      rw [spec_l01IsLeast.l0, if_neg (by simp)]; rfl
  | z :: ls, x, k, hc, hd, hk => by
    obtain ⟨k, rfl⟩ : ∃ q, k = q + 1 := ⟨k - 1, by omega⟩
    obtain ⟨h1, h2⟩ := chain_cons hc
    have hl : (z :: ls).length = ls.length + 1 := rfl
    rw [spec_l01IsLeast.l0, if_pos rfl, onS_diff (m := n) n e (by omega) (by omega) (by rw [show wrap64 ((n : Int) - 1) = (n : Int) - 1 from by unfold wrap64; omega]; exact hd x (List.mem_cons_self)) _ (by omega)]
    simp only [Option.bind_some]
    rw [List.any_cons]
    by_cases hb : onI e x < e
    · rw [if_pos hb, decide_eq_true hb]; rfl
    · rw [if_neg hb, decide_eq_false hb, h1 _ (by omega)]
      simp only [Option.bind_some, Bool.false_or]
      exact isLeastS_loop n hn e ls z k h2 (fun l hl => hd l (List.mem_cons_of_mem _ hl)) (by omega)
theorem l01IsLeast_eq (n : Nat) (hn : n < 6) (e : Int) (k : Nat) (hk : 1000 ≤ k) : spec_l01IsLeast.f k n e = some (isLeastB n 0 e) := by
  unfold spec_l01IsLeast.f
  rw [firstS_eq n (by omega) (by omega) k (by omega)]
  simp only [Option.bind_some, Int.toNat_natCast]
  obtain ⟨hh, hc⟩ := chains n hn n (by omega)
  have hd := fun l hl => (leaves_ok n hn n (by omega) l hl).2
  have hlen := leaves_short n hn n (by omega)
  unfold isLeastB
  rw [show firstI 0 = [] from rfl, Nat.sub_zero]
  revert hh hc hd hlen
  generalize leaves n n [] = L
  intro hh hc hd hlen
  cases L with
  | nil => simp at hh
  | cons x ls =>
    obtain rfl : x = firstI n := by simpa using hh
    exact isLeastS_loop n hn e ls _ k hc hd (by simp only [List.length_cons] at hlen; omega)
theorem prs_le' : ∀ n, n < 6 → 2 ^ prs n ≤ 1024 := by decide
/-- The graphs of size n with numbers of edges from e on, d of them, that ok tells. -/
def gList (n : Nat) (ok : Nat → Bool) : Nat → Nat → List S27
  | 0, _ => []
  | d + 1, e => if ok e = true then ⟨n, e⟩ :: gList n ok d (e + 1) else gList n ok d (e + 1)
theorem gList_length (n : Nat) (ok : Nat → Bool) : ∀ d e, (gList n ok d e).length ≤ d
  | 0, _ => Nat.le_refl _
  | d + 1, e => by
    have := gList_length n ok d (e + 1)
    rw [gList]; split
    · rw [List.length_cons]; omega
    · omega
theorem l01All_loop (n : Nat) (hn : n < 6) : ∀ (d e k : Nat) (out : List S27), e + d = 2 ^ prs n → out.length ≤ e → d + 1100 ≤ k → spec_l01All.l0 k n out e = some (out ++ gList n (fun e => isLeastB n 0 e) d e)
  | 0, e, k, out, hd, ho, hk => by
    obtain ⟨k, rfl⟩ : ∃ q, k = q + 1 := ⟨k - 1, by omega⟩
    have hb : spec_l01Bits.f (n : Int) = some ((prs n : Nat) : Int) := (show ∀ n : Nat, n < 6 → spec_l01Bits.f (n : Int) = some ((prs n : Nat) : Int) from by decide +kernel) n hn
    have hw : IntKind.u64.wrap ((prs n : Nat) : Int) = ((prs n : Nat) : Int) := (show ∀ n : Nat, n < 6 → IntKind.u64.wrap ((prs n : Nat) : Int) = ((prs n : Nat) : Int) from by decide +kernel) n hn
    have hsh : shl .i64 1 ((prs n : Nat) : Int) = ((2 ^ prs n : Nat) : Int) := (show ∀ n : Nat, n < 6 → shl .i64 1 ((prs n : Nat) : Int) = ((2 ^ prs n : Nat) : Int) from by decide +kernel) n hn
    rw [spec_l01All.l0, hb]
    simp only [Option.bind_some, hw, hsh]
    rw [if_pos (by omega), if_neg (by omega), gList, List.append_nil]
  | d + 1, e, k, out, hd, ho, hk => by
    obtain ⟨k, rfl⟩ : ∃ q, k = q + 1 := ⟨k - 1, by omega⟩
    have hp := prs_le' n hn
    have hb : spec_l01Bits.f (n : Int) = some ((prs n : Nat) : Int) := (show ∀ n : Nat, n < 6 → spec_l01Bits.f (n : Int) = some ((prs n : Nat) : Int) from by decide +kernel) n hn
    have hw : IntKind.u64.wrap ((prs n : Nat) : Int) = ((prs n : Nat) : Int) := (show ∀ n : Nat, n < 6 → IntKind.u64.wrap ((prs n : Nat) : Int) = ((prs n : Nat) : Int) from by decide +kernel) n hn
    have hsh : shl .i64 1 ((prs n : Nat) : Int) = ((2 ^ prs n : Nat) : Int) := (show ∀ n : Nat, n < 6 → shl .i64 1 ((prs n : Nat) : Int) = ((2 ^ prs n : Nat) : Int) from by decide +kernel) n hn
    have he : ((e : Int)) % 4294967296 = (e : Int) := by omega
    rw [spec_l01All.l0, hb]
    simp only [Option.bind_some, hw, hsh]
    rw [if_pos (by omega), if_pos (by omega), he, l01IsLeast_eq n hn e k (by omega), w64_succ (by omega), gList]
    simp only [Option.bind_some]
    by_cases hl : isLeastB n 0 (e : Int) = true
    · rw [if_pos hl, if_pos hl, if_pos (by omega), l01All_loop n hn d (e + 1) k _ (by omega) (by rw [List.length_append]; simp only [List.length_cons, List.length_nil]; omega) (by omega), List.append_assoc]; rfl
    · rw [if_neg hl, if_neg hl, l01All_loop n hn d (e + 1) k _ (by omega) (by omega) (by omega)]

end Go.Proofs.Ytcepbgffnneagaa.Q
end

section
namespace Go.Proofs.Ytcepbgffnneagaa.Q
open Go.RowKit Go.Proofs.YtcepbgffnneagaaW.PrintWords Go.Proofs.YtcepbgffnneagaaW.PrintLast Go.Proofs.YtcepbgffnneagaaW.PrintMore
attribute [local go_sem] max2_int min2_int max_two min_two max_three min_three max_four min_four   -- for this text's walks alone
set_option linter.unusedVariables false
set_option linter.unusedSimpArgs false

def cntE {α : Type} (p : α → Bool) (L : List α) (many : Int) : Int := L.foldl (fun b l => if p l = true then wrap64 (b + 1) else b) many
theorem cntE_eq {α : Type} (p : α → Bool) : ∀ (L : List α) (many : Nat), many + L.length ≤ 100000 → cntE p L many = ((many + L.countP p : Nat) : Int)
  | [], many, _ => rfl
  | l :: L, many, h => by
    have hl : (l :: L).length = L.length + 1 := rfl
    show cntE p L (if p l = true then wrap64 ((many : Int) + 1) else many) = _
    by_cases hb : p l = true
    · rw [if_pos hb, show wrap64 ((many : Int) + 1) = ((many + 1 : Nat) : Int) from by unfold wrap64; omega, cntE_eq p L (many + 1) (by omega), List.countP_cons_of_pos hb]
      congr 1; omega
    · rw [if_neg hb, cntE_eq p L many (by omega), List.countP_cons_of_neg hb]
theorem cntE_perm {α : Type} (p : α → Bool) {L M : List α} (h : L.Perm M) (hL : L.length ≤ 1000) : cntE p L 0 = cntE p M 0 := by
  have h1 := cntE_eq p L 0 (by omega)
  have h2 := cntE_eq p M 0 (by rw [← h.length_eq]; omega)
  rw [show ((0 : Nat) : Int) = 0 from rfl] at h1 h2
  rw [h1, h2, h.countP_eq]
end Go.Proofs.Ytcepbgffnneagaa.Q
end

section
namespace Go.Proofs.Ytcepbgffnneagaa.Q
open Go.RowKit Go.Proofs.YtcepbgffnneagaaW.PrintWords Go.Proofs.YtcepbgffnneagaaW.PrintLast Go.Proofs.YtcepbgffnneagaaW.PrintMore
attribute [local go_sem] max2_int min2_int max_two min_two max_three min_three max_four min_four   -- for this text's walks alone
set_option linter.unusedVariables false
set_option linter.unusedSimpArgs false

def shiftL (s : Nat) (own : List Int) : List Int := firstI s ++ own.map fun x => (s : Int) + x
theorem leaves_shift : ∀ n, n < 6 → ∀ s, s < n + 1 → leaves n (n - s) (firstI s) = (leaves (n - s) (n - s) []).map (shiftL s) := by decide +kernel
theorem leaves_ok_s : ∀ n, n < 6 → ∀ s, s < n + 1 → ∀ l ∈ leaves n (n - s) (firstI s), l.length = n ∧ allDiff ((n : Int) - 1) l := by decide +kernel
theorem leaves_small : ∀ n, n < 6 → ∀ l ∈ leaves n n [], l.length = n ∧ ∀ x ∈ l, 0 ≤ x ∧ x ≤ 5 := by decide +kernel
theorem l03Order_loop (s : Nat) (hs : s < 6) (own : List Int) (hl : own.length ≤ 5) (ho : ∀ x ∈ own, 0 ≤ x ∧ x ≤ 5) : ∀ (d i k : Nat) (out : List Int), i + d = own.length → out.length ≤ 5 + i → d + 1 ≤ k → spec_l03Order.l0 k s own out i = some (out ++ (own.drop i).map fun x => (s : Int) + x)
  | 0, i, k, out, hd, hout, hk => by
    obtain ⟨k, rfl⟩ : ∃ q, k = q + 1 := ⟨k - 1, by omega⟩
    rw [spec_l03Order.l0, if_neg (by omega), List.drop_eq_nil_of_le (by omega)]; simp
  | d + 1, i, k, out, hd, hout, hk => by
    obtain ⟨k, rfl⟩ : ∃ q, k = q + 1 := ⟨k - 1, by omega⟩
    have hi : i < own.length := by omega
    have hx := ho _ (List.getElem_mem hi)
    rw [spec_l03Order.l0, if_pos (by omega), if_pos (by omega), if_pos (by omega), w64_succ (by omega), rd_of_lt own hi, show wrap64 ((s : Int) + own[i]) = (s : Int) + own[i] from by unfold wrap64; omega]
    rw [l03Order_loop s hs own hl ho d (i + 1) k _ (by omega) (by rw [List.length_append]; simp only [List.length_cons, List.length_nil]; omega) (by omega), List.append_assoc, List.drop_eq_getElem_cons hi]
    rfl
theorem l03Order_eq (s : Nat) (hs : s < 6) (own : List Int) (hl : own.length ≤ 5) (ho : ∀ x ∈ own, 0 ≤ x ∧ x ≤ 5) (k : Nat) (hk : 100 ≤ k) : spec_l03Order.f k s own = some (shiftL s own) := by
  unfold spec_l03Order.f
  rw [firstS_eq s (by omega) (by omega) k (by omega)]
  simp only [Option.bind_some, Int.toNat_natCast]
  have hfl : ∀ n, n < 6 → (firstI n).length = n := by decide
  have hfs := hfl s hs
  have := l03Order_loop s hs own hl ho own.length 0 k (firstI s) (by omega) (by omega) (by omega)
  rw [show ((0 : Nat) : Int) = 0 from rfl] at this
  rw [this]; rfl
/-- What is asked of each own order of a flag. -/
theorem own_ok (n s : Nat) (hn : n < 6) (hs : s < n + 1) : ∀ l ∈ leaves (n - s) (n - s) [], (l.length ≤ 5 ∧ ∀ y ∈ l, 0 ≤ y ∧ y ≤ 5) ∧ (shiftL s l).length = n ∧ allDiff ((n : Int) - 1) (shiftL s l) := by
  intro l hl
  have h1 := leaves_small (n - s) (by omega) l hl
  have h2 := leaves_ok_s n hn s hs (shiftL s l) (by rw [leaves_shift n hn s hs]; exact List.mem_map_of_mem hl)
  exact ⟨⟨by omega, h1.2⟩, h2⟩

end Go.Proofs.Ytcepbgffnneagaa.Q
end

section
namespace Go.Proofs.Ytcepbgffnneagaa.Q
open Go.RowKit Go.Proofs.YtcepbgffnneagaaW.PrintWords Go.Proofs.YtcepbgffnneagaaW.PrintLast Go.Proofs.YtcepbgffnneagaaW.PrintMore
attribute [local go_sem] max2_int min2_int max_two min_two max_three min_three max_four min_four   -- for this text's walks alone
set_option linter.unusedVariables false
set_option linter.unusedSimpArgs false

end Go.Proofs.Ytcepbgffnneagaa.Q
end

section
namespace Go.Proofs.Ytcepbgffnneagaa.Q
open Go.RowKit Go.Proofs.YtcepbgffnneagaaW.PrintWords Go.Proofs.YtcepbgffnneagaaW.PrintLast Go.Proofs.YtcepbgffnneagaaW.PrintMore
attribute [local go_sem] max2_int min2_int max_two min_two max_three min_three max_four min_four   -- for this text's walks alone
set_option linter.unusedVariables false
set_option linter.unusedSimpArgs false

end Go.Proofs.Ytcepbgffnneagaa.Q
end

section
namespace Go.Proofs.Ytcepbgffnneagaa.Q
open Go.RowKit Go.Proofs.YtcepbgffnneagaaW.PrintWords Go.Proofs.YtcepbgffnneagaaW.PrintLast Go.Proofs.YtcepbgffnneagaaW.PrintMore
attribute [local go_sem] max2_int min2_int max_two min_two max_three min_three max_four min_four   -- for this text's walks alone
set_option linter.unusedVariables false
set_option linter.unusedSimpArgs false

end Go.Proofs.Ytcepbgffnneagaa.Q
end

section
namespace Go.Proofs.Ytcepbgffnneagaa.Q
open Go.RowKit Go.Proofs.YtcepbgffnneagaaW.PrintWords Go.Proofs.YtcepbgffnneagaaW.PrintLast Go.Proofs.YtcepbgffnneagaaW.PrintMore
attribute [local go_sem] max2_int min2_int max_two min_two max_three min_three max_four min_four   -- for this text's walks alone
set_option linter.unusedVariables false
set_option linter.unusedSimpArgs false

def leastE (e : Int) (L : List (List Int)) (best : Int) : Int := L.foldl (fun b l => if onI e l < b then onI e l else b) best
end Go.Proofs.Ytcepbgffnneagaa.Q
end

section
namespace Go.Proofs.Ytcepbgffnneagaa.Q
open Go.RowKit Go.Proofs.YtcepbgffnneagaaW.PrintWords Go.Proofs.YtcepbgffnneagaaW.PrintLast Go.Proofs.YtcepbgffnneagaaW.PrintMore
attribute [local go_sem] max2_int min2_int max_two min_two max_three min_three max_four min_four   -- for this text's walks alone
set_option linter.unusedVariables false
set_option linter.unusedSimpArgs false

theorem least3_loop (n s : Nat) (hn : n < 6) (hs : s < n + 1) (e : Int) : ∀ (ls : List (List Int)) (x : List Int) (k : Nat) (best : Int), isChain ((n - s : Nat) : Int) (x :: ls) = true → (∀ l ∈ x :: ls, (l.length ≤ 5 ∧ ∀ y ∈ l, 0 ≤ y ∧ y ≤ 5) ∧ (shiftL s l).length = n ∧ allDiff ((n : Int) - 1) (shiftL s l)) → ls.length + 200 ≤ k →
    spec_l03Least.l0 k x true s n e s n best = some ((s : Int), (n : Int), leastE e ((x :: ls).map (shiftL s)) best)
  | [], x, k, best, hc, hd, hk => by
    obtain ⟨k, rfl⟩ : ∃ q, k = q + 2 := ⟨k - 2, by omega⟩
    obtain ⟨y, hy⟩ := chain_one hc
    obtain ⟨⟨hx1, hx2⟩, hx3, hx4⟩ := hd x (List.mem_cons_self)
    rw [spec_l03Least.l0, if_pos rfl, l03Order_eq s (by omega) x hx1 hx2 _ (by omega)]
    simp only [Option.bind_some]
    rw [onS_diff (m := n) n e (by omega) (by omega) (by rw [show wrap64 ((n : Int) - 1) = (n : Int) - 1 from by unfold wrap64; omega]; exact hx4) _ (by omega), show wrap64 ((n : Int) - (s : Int)) = ((n - s : Nat) : Int) from by unfold wrap64; omega]
    simp only [Option.bind_some, leastE, List.map_cons, List.map_nil, List.foldl_cons, List.foldl_nil, hx3]
    by_cases hb : onI e (shiftL s x) < best
    · rw [if_pos hb, if_pos hb, hy _ (by omega)]
      simp only [Option.bind_some]
      rw [spec_l03Least.l0, if_neg (by simp)]
    · rw [if_neg hb, if_neg hb, hy _ (by omega)]
      simp only [Option.bind_some]
      rw [spec_l03Least.l0, if_neg (by simp)]
  | z :: ls, x, k, best, hc, hd, hk => by
    obtain ⟨k, rfl⟩ : ∃ q, k = q + 1 := ⟨k - 1, by omega⟩
    obtain ⟨h1, h2⟩ := chain_cons hc
    obtain ⟨⟨hx1, hx2⟩, hx3, hx4⟩ := hd x (List.mem_cons_self)
    have hl : (z :: ls).length = ls.length + 1 := rfl
    rw [spec_l03Least.l0, if_pos rfl, l03Order_eq s (by omega) x hx1 hx2 _ (by omega)]
    simp only [Option.bind_some]
    rw [onS_diff (m := n) n e (by omega) (by omega) (by rw [show wrap64 ((n : Int) - 1) = (n : Int) - 1 from by unfold wrap64; omega]; exact hx4) _ (by omega), show wrap64 ((n : Int) - (s : Int)) = ((n - s : Nat) : Int) from by unfold wrap64; omega]
    have ih := fun best => least3_loop n s hn hs e ls z k best h2 (fun l hl => hd l (List.mem_cons_of_mem _ hl)) (by omega)
    simp only [Option.bind_some, leastE, hx3]
    rw [List.map_cons, List.foldl_cons]
    by_cases hb : onI e (shiftL s x) < best
    · rw [if_pos hb, if_pos hb, h1 _ (by omega)]
      exact ih _
    · rw [if_neg hb, if_neg hb, h1 _ (by omega)]
      exact ih _
theorem l03Least_eq (n s : Nat) (hn : n < 6) (hs : s < n + 1) (e : Int) (k : Nat) (hk : 1000 ≤ k) : spec_l03Least.f k s n e = some ((s : Int), (n : Int), leastE e (leaves n (n - s) (firstI s)) e) := by
  unfold spec_l03Least.f
  rw [show wrap64 ((n : Int) - (s : Int)) = ((n - s : Nat) : Int) from by unfold wrap64; omega, firstS_eq ((n - s : Nat) : Int) (by omega) (by omega) k (by omega), leaves_shift n hn s hs]
  simp only [Option.bind_some, Int.toNat_natCast]
  obtain ⟨hh, hc⟩ := chains (n - s) (by omega) (n - s) (by omega)
  have hd := own_ok n s hn hs
  have hlen := leaves_short (n - s) (by omega) (n - s) (by omega)
  revert hh hc hd hlen
  generalize leaves (n - s) (n - s) [] = L
  intro hh hc hd hlen
  cases L with
  | nil => simp at hh
  | cons x ls =>
    obtain rfl : x = firstI (n - s) := by simpa using hh
    exact least3_loop n s hn hs e ls _ k e hc hd (by simp only [List.length_cons] at hlen; omega)

end Go.Proofs.Ytcepbgffnneagaa.Q
end

section
namespace Go.Proofs.Ytcepbgffnneagaa.Q
open Go.RowKit Go.Proofs.YtcepbgffnneagaaW.PrintWords Go.Proofs.YtcepbgffnneagaaW.PrintLast Go.Proofs.YtcepbgffnneagaaW.PrintMore
attribute [local go_sem] max2_int min2_int max_two min_two max_three min_three max_four min_four   -- for this text's walks alone
set_option linter.unusedVariables false
set_option linter.unusedSimpArgs false

def ratioOk (p q : Nat) : Bool := match impl_lowest.f 100 (p : Int) (q : Int), spec_l04Ratio.f 100 (p : Int) (q : Int) with
  | some a, some b => decide (a = b)
  | _, _ => false
theorem ratio_all : ∀ q, q < 61 → 0 < q → ∀ p, p < q + 1 → ratioOk p q = true := by decide +kernel
/-- A quotient of small numbers in lowest terms, by both. -/
theorem ratio_both (p q : Nat) (hq : q < 61) (h0 : 0 < q) (hp : p < q + 1) : ∃ a b : Int, ∀ k, 100 ≤ k → impl_lowest.f k p q = some (a, b) ∧ spec_l04Ratio.f k p q = some (a, b) := by
  have h := ratio_all q hq h0 p hp
  unfold ratioOk at h
  split at h
  · next x y e1 e2 =>
    obtain rfl := of_decide_eq_true h
    exact ⟨x.1, x.2, fun k hk => ⟨LeO_ge (F := fun k => impl_lowest.f k p q) (fun k => impl_lowest.mono p q k) hk _ e1, LeO_ge (F := fun k => spec_l04Ratio.f k p q) (fun k => spec_l04Ratio.mono p q k) hk _ e2⟩⟩
  · cases h

end Go.Proofs.Ytcepbgffnneagaa.Q
end

section
namespace Go.Proofs.Ytcepbgffnneagaa.Q
open Go.RowKit Go.Proofs.YtcepbgffnneagaaW.PrintWords Go.Proofs.YtcepbgffnneagaaW.PrintLast Go.Proofs.YtcepbgffnneagaaW.PrintMore
attribute [local go_sem] max2_int min2_int max_two min_two max_three min_three max_four min_four   -- for this text's walks alone
set_option linter.unusedVariables false
set_option linter.unusedSimpArgs false

def subsIn (g : Nat → List Int → List (List Int)) (L l : List Int) : Nat → Nat → List (List Int)
  | 0, _ => []
  | d + 1, j => g (j + 1) (l ++ [rd L j]) ++ subsIn g L l d (j + 1)
/-- All ascending lists of r numbers of L, from place i on, behind l. -/
def subs (L : List Int) : Nat → Nat → List Int → List (List Int)
  | 0, _, l => [l]
  | r + 1, i, l => subsIn (subs L r) L l (L.length - i) i
def foldCb {σ : Type} (cb : List Int → σ → Option σ) : List (List Int) → σ → Option σ
  | [], s => some s
  | l :: ls, s => (cb l s).bind (foldCb cb ls)
theorem foldCb_append {σ : Type} (cb : List Int → σ → Option σ) (y : List (List Int)) : ∀ (x : List (List Int)) (s : σ), foldCb cb (x ++ y) s = (foldCb cb x s).bind (foldCb cb y)
  | [], s => rfl
  | l :: ls, s => by
    simp only [List.cons_append, foldCb]
    cases cb l s with
    | none => rfl
    | some s2 => exact foldCb_append cb y ls s2
theorem chosen_l0 {σ : Type} (cb : List Int → σ → Option σ) (f : Int → List Int → σ → Option σ) (g : Nat → List Int → List (List Int)) (L l : List Int) (hl : l.length ≤ 1000) (hL : L.length ≤ 1000) (hf : ∀ (j : Nat) s, j < L.length → f ((j + 1 : Nat) : Int) (l ++ [rd L j]) s = foldCb cb (g (j + 1) (l ++ [rd L j])) s) :
    ∀ (d j k : Nat) (s : σ), j + d = L.length → d + 1 ≤ k → impl_chosen_1.l0 f L k l j s = foldCb cb (subsIn g L l d j) s
  | 0, j, k, s, hd, hk => by
    obtain ⟨k, rfl⟩ : ∃ q, k = q + 1 := ⟨k - 1, by omega⟩
    rw [impl_chosen_1.l0, if_neg (by omega)]; rfl
  | d + 1, j, k, s, hd, hk => by
    obtain ⟨k, rfl⟩ : ∃ q, k = q + 1 := ⟨k - 1, by omega⟩
    rw [impl_chosen_1.l0, if_pos (by omega), if_pos (by omega), if_pos hl, show wrap64 ((j : Int) + 1) = ((j + 1 : Nat) : Int) from by unfold wrap64; omega, hf j s (by omega), subsIn, foldCb_append]
    congr 1
    funext s2
    exact chosen_l0 cb f g L l hl hL hf d (j + 1) k s2 (by omega) (by omega)
theorem chosen_eq {σ : Type} (cb : List Int → σ → Option σ) (m : Nat) (hm : m ≤ 900) (L : List Int) (hL : L.length ≤ 1000) : ∀ (r k i : Nat) (l : List Int) (s : σ), l.length + r = m → i ≤ L.length → L.length + r + 1 ≤ k → impl_chosen_1.f cb m L k i l s = foldCb cb (subs L r i l) s
  | 0, k, i, l, s, h, hi, hk => by
    obtain ⟨k, rfl⟩ : ∃ q, k = q + 1 := ⟨k - 1, by omega⟩
    rw [impl_chosen_1.f, if_pos (by omega), subs]
    simp only [foldCb]
    cases cb l s <;> rfl
  | r + 1, k, i, l, s, h, hi, hk => by
    obtain ⟨k, rfl⟩ : ∃ q, k = q + 1 := ⟨k - 1, by omega⟩
    rw [impl_chosen_1.f, if_neg (by omega), subs]
    exact chosen_l0 cb _ _ L l (by omega) hL (fun j s hj => chosen_eq cb m hm L hL r k (j + 1) _ s (by rw [List.length_append]; simp only [List.length_cons, List.length_nil]; omega) (by omega) (by omega)) _ i _ s (by omega) (by omega)
theorem chosen_l0_mono {σ : Type} {f g : Int → List Int → σ → Option σ} (hfg : ∀ a l s, LeO (f a l s) (g a l s)) (L : List Int) : ∀ (k : Nat) (x : List Int) (j : Int) (s : σ), LeO (impl_chosen_1.l0 f L k x j s) (impl_chosen_1.l0 g L (k + 1) x j s)
  | 0, x, j, s => by rw [impl_chosen_1.l0]; exact LeO.none _
  | k + 1, x, j, s => by
    rw [impl_chosen_1.l0, impl_chosen_1.l0]
    exact LeO.ite (LeO.ite (LeO.ite (LeO.bind (hfg _ _ _) (fun _ => chosen_l0_mono hfg L k _ _ _)) (LeO.refl _)) (LeO.refl _)) (LeO.refl _)
theorem chosen_mono {σ : Type} (cb : List Int → σ → Option σ) (m : Int) (L : List Int) : ∀ (k : Nat) (a : Int) (l : List Int) (s : σ), LeO (impl_chosen_1.f cb m L k a l s) (impl_chosen_1.f cb m L (k + 1) a l s)
  | 0, a, l, s => by rw [impl_chosen_1.f]; exact LeO.none _
  | k + 1, a, l, s => by
    rw [impl_chosen_1.f, impl_chosen_1.f]
    exact LeO.ite (LeO.refl _) (chosen_l0_mono (chosen_mono cb m L k) L (k + 1) l a s)
theorem chosen_fs {σ : Type} (cb : List Int → σ → Option σ) (m : Nat) (hm : m ≤ 900) (L : List Int) (hL : L.length ≤ 1000) (s s' : σ) (h : foldCb cb (subs L m 0 []) s = some s') : impl_chosen.fs cb L m s = some s' := by
  unfold impl_chosen.fs
  refine tot_of (F := fun k => impl_chosen_1.f cb (m : Int) L k 0 [] s) (k := L.length + m + 1) (fun k => chosen_mono cb m L k 0 [] s) ?_
  have := chosen_eq cb m hm L hL m (L.length + m + 1) 0 [] s (by simp) (Nat.zero_le _) (Nat.le_refl _)
  rw [show ((0 : Nat) : Int) = 0 from rfl] at this
  rw [← h, ← this]
theorem foldCb_cnt (cb : List Int → Int → Option Int) (p : List Int → Bool) : ∀ (L : List (List Int)) (s : Int), (∀ l ∈ L, ∀ s, cb l s = some (if p l = true then wrap64 (s + 1) else s)) → foldCb cb L s = some (cntE p L s)
  | [], _, _ => rfl
  | l :: L, s, h => by
    rw [foldCb, h l List.mem_cons_self s]
    exact foldCb_cnt cb p L _ fun x hx => h x (List.mem_cons_of_mem _ hx)

end Go.Proofs.Ytcepbgffnneagaa.Q
end

section
namespace Go.Proofs.Ytcepbgffnneagaa.Q
open Go.RowKit Go.Proofs.YtcepbgffnneagaaW.PrintWords Go.Proofs.YtcepbgffnneagaaW.PrintLast Go.Proofs.YtcepbgffnneagaaW.PrintMore
attribute [local go_sem] max2_int min2_int max_two min_two max_three min_three max_four min_four   -- for this text's walks alone
set_option linter.unusedVariables false
set_option linter.unusedSimpArgs false

theorem sets4_irr : ∀ k, (∀ x i a b c, spec_l04Sets.l0 k x i a b c = spec_l04Sets.l0 k x i a 0 0) ∧ (∀ x i j a b c, spec_l04Sets.l1 k x i j a b c = spec_l04Sets.l1 k x i j a 0 0)
  | 0 => ⟨fun _ _ _ _ _ => by simp only [spec_l04Sets.l0], fun _ _ _ _ _ _ => by simp only [spec_l04Sets.l1]⟩
  | k + 1 => by
    obtain ⟨h0, h1⟩ := sets4_irr k
    refine ⟨fun x i a b c => ?_, fun x i j a b c => ?_⟩
    · rw [spec_l04Sets.l0, spec_l04Sets.l0, h1 x i 0 a b c]
    · rw [spec_l04Sets.l1, spec_l04Sets.l1, h0 _ _ a b c, h1 _ _ _ a b c]
def sets4 (s n r : Nat) : List (List Int) := (spec_l04Sets.f 300 r s n 0).getD []
theorem sets4_300 : ∀ n : Nat, n < 6 → ∀ s : Nat, s < n + 1 → ∀ r : Nat, r < 6 → spec_l04Sets.f 300 r s n 0 = some (sets4 s n r) := by decide +kernel
theorem sets4_f_irr (k : Nat) (r s n e : Int) : spec_l04Sets.f k r s n e = spec_l04Sets.f k r s n 0 := by
  unfold spec_l04Sets.f
  congr 1
  funext t
  rw [(sets4_irr k).1 t 0 s n e, (sets4_irr k).1 t 0 s n 0]
theorem sets4_eq (s n r : Nat) (hn : n < 6) (hs : s < n + 1) (hr : r < 6) (e : Int) (k : Nat) (hk : 300 ≤ k) : spec_l04Sets.f k r s n e = some (sets4 s n r) := by
  have h := sets4_300 n hn s hs r hr
  rw [← sets4_f_irr 300 r s n e] at h
  exact LeO_ge (F := fun k => spec_l04Sets.f k r s n e) (fun k => spec_l04Sets.mono r s n e k) hk _ h
theorem sets4_ok : ∀ n : Nat, n < 6 → ∀ s : Nat, s < n + 1 → ∀ r : Nat, r < 6 → (sets4 s n r).length ≤ 10 ∧ ∀ l ∈ sets4 s n r, l.length = r ∧ allDiff ((n : Int) - 1) (firstI s ++ l) := by decide +kernel
theorem sets4_perm : ∀ n : Nat, n < 6 → ∀ s : Nat, s < n + 1 → ∀ r : Nat, r < 6 → (sets4 s n r).isPerm (subs ((firstI n).drop s) r 0 []) = true := by decide +kernel
theorem firstI_len : ∀ n : Nat, n < 6 → (firstI n).length = n := by decide

end Go.Proofs.Ytcepbgffnneagaa.Q
end
