/- Contracts of Go functions and plain lemmas over what they compute; printed by the kit's print program or written by hand, joined. -/
import Derived.Test.YtafkdkiagmbeaaaBFnExactLeastGraph1
import Derived.Test.YtafkdkiagmbeaaaBFnExactLeastGraph9
import Derived.Test.YtafkdkiagmbeaaaBFnExactLeastGraph8
section
/- A contract of one Go function: what it returns for its arguments; printed by the kit's print program or written by hand. -/
namespace Go.Proofs.Ytafkdkiagmbeaaa.Q
open Go.RowKit Go.Proofs.YtafkdkiagmbeaaaW.PrintWords Go.Proofs.YtafkdkiagmbeaaaW.PrintLast Go.Proofs.YtafkdkiagmbeaaaW.PrintMore
attribute [local go_sem] max2_int min2_int max_two min_two max_three min_three max_four min_four   -- for this text's walks alone
set_option linter.unusedVariables false
set_option linter.unusedSimpArgs false

/-! ### impl_Graph_orders: function 123 -/
theorem firstI_length : ∀ n, (firstI n).length = n
  | 0 => rfl
  | n + 1 => by rw [firstI, List.length_append, firstI_length n]; rfl
set_option maxHeartbeats 16000000 in
set_option maxRecDepth 100000 in
theorem impl_Graph_orders.state {σ : Type} (cb : List Int → σ → Option (Bool × σ)) (I : σ → World → Prop) (M : Nat → Prop) (G1 : Nat) (lb1 : Array Value) (eg1 : EnterF Try.prog G1) (W0 : World) (hM : ∀ k, M k → k < W0.heap.size)
    (hI : Aside0 (∀ a W W', I a W → Below W.heap.size W W' → I a W'))
    (hcb : Aside0 (∀ (l : List Int) (a : σ) (b : Bool) (a' : σ) (A : Option Addr) (c : Nat) (W : World), I a W → Kd.C (Kd.int .i64) W A l.length l → l.length ≤ c → cb l a = some (b, a') → But M W0 W → Calls Try.prog G1 (#[.slice A l.length c] ++ lb1) W fun e w' => e = .returned (.bool b) ∧ I a' w' ∧ But M W w'))
    (a0_0 a0_1 a1 : Int) (a : σ) (b : Bool) (a' : σ) (w : World) (hb0 : 0 ≤ a1 ∧ a1 ≤ a0_0 ∧ a0_0 ≤ 5) (hi : I a w) (hB0 : But M W0 w) (h : lstd cb a0_0.toNat (a0_0 - a1).toNat (firstI a1.toNat) a = some (b, a')) :
    Calls Try.prog 123 #[.agg #[.int .i64 a0_0, .int .u32 a0_1], .int .i64 a1, .func (.func G1) #[] lb1] w fun e w' => e = .returned (.bool b) ∧ I a' w' ∧ But M w w' := by
  have hu46 := Try.underlying46
  have HB := Aside0.mk (Below.refl w.heap.size w)
  have HI := Aside0.mk hi
  have HB0 := Aside0.mk hB0
  have H := Aside0.mk h
  have HM := Aside0.mk (show ∀ k, M k → k < w.heap.size from fun k hk => Nat.lt_of_lt_of_le (hM k hk) hB0.size)
  have A2 : Aside0 (impl_firstT.f a1 = some (firstI a1.toNat)) := ⟨impl_firstT.eq hb0.1 (by omega)⟩
  have HN := Aside0.mk hb0
  clear hi hB0 h hb0
  go_enter Try.func123, Try.ntmps123
  try go_wp2_with ((with_reducible refine gate_dst (N := 3) rfl ?_); refine box_event ?hg (N := 3) ?hd (cs := #[.int .i64 a0_0, .int .u32 a0_1]) (t := 46) ?hr ?_; (case hd => rfl); (case hg => rfl); (case hr => first | (go_simp; done) | (go_simp; rfl)); intro gb1 hg w4 hbox hb; have n0_ := Aside0.mk (below_step (by repeat (first | (with_reducible first | exact HB.out | apply below_alloc | apply pw_below_drewN | apply below_drew1) | exact HB.out)) hb); have n1_ := Aside0.mk (hbox); have n2_ := Aside0.mk ((by rw [hg]; exact (below_size (by repeat (first | (with_reducible first | exact HB.out | apply below_alloc | apply pw_below_drewN | apply below_drew1) | exact HB.out))) : w.heap.size ≤ gb1)); clear HB; have HB := n0_; have BK1 := n1_; have GW1 := n2_; clear n0_ n1_ n2_; clear hb hbox hg)
  have n1_ := Aside0.mk (blk_drew BK1.out)
  have n2_ := Aside0.mk (below_drew1 HB.out)
  clear BK1
  clear HB
  have BK1 := n1_
  have HB := n2_
  clear n1_ n2_
  refine start_ (n := 9) (S := fun w' => w'.cell? ⟨gb1, 0, none⟩ = some (.int .i64 a0_0) ∧ w'.cell? ⟨gb1, 1, none⟩ = some (.int .u32 a0_1)) (ds := []) #[false, false, false, false, false, false, false, false, false] (by kernel_rfl) rfl rfl ⟨(blk_cell BK1.out 0).trans rfl, (blk_cell BK1.out 1).trans rfl⟩ (fun hHeld => ?_)
  generalize w4.drew = w6 at BK1 HB hHeld ⊢
  refine pure_ (i := 0) (N := some 7) (v := ?_) (a' := ?_) #[true, false, false, false, false, false, false, false, false] rfl rfl (by kernel_rfl) (fun _ _ _ h => h) (Or.inl ⟨by rfl, ?_⟩) ?_ ?_
  rotate_left
  · intro w'
    go_simp
    with_reducible rfl
  rotate_left
  · simp only [Act.put, List.setIfInBounds_toArray, List.set_cons_zero, List.set_cons_succ, i64_w, i32_w]
    rfl
  refine pure_ (i := 2) (N := some 9) (v := ?_) (a' := ?_) #[true, false, true, false, false, false, false, false, false] rfl rfl (by kernel_rfl) (fun _ _ _ h => h) (Or.inl ⟨by rfl, ?_⟩) ?_ ?_
  rotate_left
  · intro w'
    go_simp
    with_reducible rfl
  rotate_left
  · simp only [Act.put, List.setIfInBounds_toArray, List.set_cons_zero, List.set_cons_succ, i64_w, i32_w]
    rfl
  refine pure_ (i := 4) (N := some 11) (v := ?_) (a' := ?_) #[true, false, true, false, true, false, false, false, false] rfl rfl (by kernel_rfl) (fun _ _ _ h => h) (Or.inl ⟨by rfl, ?_⟩) ?_ ?_
  rotate_left
  · intro w'
    go_simp
    with_reducible rfl
  rotate_left
  · simp only [Act.put, List.setIfInBounds_toArray, List.set_cons_zero, List.set_cons_succ, i64_w, i32_w]
    rfl
  refine pure_ (i := 6) (N := some 13) (v := ?_) (a' := ?_) #[true, false, true, false, true, false, true, false, false] rfl rfl (by kernel_rfl) (fun _ _ _ h => h) (Or.inl ⟨by rfl, ?_⟩) ?_ ?_
  rotate_left
  · intro w'
    go_simp
    with_reducible rfl
  rotate_left
  · simp only [Act.put, List.setIfInBounds_toArray, List.set_cons_zero, List.set_cons_succ, i64_w, i32_w]
    rfl
  refine take_ (i := 1) (N := some 8) (v := ?_) (a' := ?_) #[true, true, true, false, true, false, true, false, false] rfl rfl (by kernel_rfl) (fun _ _ _ h => h) (Or.inl ⟨by rfl, ?_⟩) hHeld ?_ ?_
  rotate_left
  · rintro w' ⟨s0, s1⟩
    go_simp
    with_reducible rfl
  rotate_left
  · simp only [Act.put, List.setIfInBounds_toArray, List.set_cons_zero, List.set_cons_succ, i64_w, i32_w]
    rfl
  refine take_ (i := 3) (N := some 10) (v := ?_) (a' := ?_) #[true, true, true, true, true, false, true, false, false] rfl rfl (by kernel_rfl) (fun _ _ _ h => h) (Or.inl ⟨by rfl, ?_⟩) hHeld ?_ ?_
  rotate_left
  · rintro w' ⟨s0, s1⟩
    go_simp
    with_reducible rfl
  rotate_left
  · simp only [Act.put, List.setIfInBounds_toArray, List.set_cons_zero, List.set_cons_succ, i64_w, i32_w]
    rfl
  refine one_ (i := 5) (N := some 12) #[true, true, true, true, true, true, true, false, false] rfl rfl (by kernel_rfl) (by decide) (fun K hK => ?_)
  refine goes_ Try.func141 (by kernel_rfl) rfl #[.int .i64 a1] (by rfl) rfl rfl (by (try simp only [List.map_toArray, List.map_cons, List.map_nil]); first | done | rfl) ?_
  with_reducible refine (impl_firstT.calls a1 (firstI a1.toNat) _ A2.out).mono ?_
  rintro e w7 ⟨v1, rfl, ho0, hb⟩
  refine ⟨_, rfl, ?_⟩
  have n0_ := Aside0.mk (Kd.R_lower ho0 (below_size HB.out))
  have n1_ := Aside0.mk (blk_below (g := gb1) (o := .cells #[.int .i64 a0_0, .int .u32 a0_1] 46 (0, 0)) BK1.out hb)
  have n3_ := Aside0.mk (below_step HB.out hb)
  clear BK1
  clear HB
  have HO1 := n0_
  have BK1 := n1_
  have HB := n3_
  clear n0_ n1_ n3_ hb ho0
  obtain ⟨Ao8, co8, eo8⟩ := Kd.R_slice HO1.out
  subst eo8
  refine hK.out _ _ ⟨(blk_cell BK1.out 0).trans rfl, (blk_cell BK1.out 1).trans rfl⟩ (fun hHeld => ?_)
  clear hK K
  refine norm_ (a' := ?_) ?_ ?_
  rotate_left
  · show Act.put _ (some 12) _ = _
    simp only [Act.put, List.setIfInBounds_toArray, List.set_cons_zero, List.set_cons_succ, i64_w, i32_w]
    rfl
  have HG : Aside0 (∀ ad, Ao8 = some ad → ¬ M ad.block) := ⟨fun ad e hm => by
    cases e
    have h1 := HM.out _ hm
    have h2 := Kd.R_base HO1.out _ rfl
    omega⟩
  refine one_ (i := 7) (N := some 14) #[true, true, true, true, true, true, true, true, false] rfl rfl (by kernel_rfl) (by decide) (fun K hK => ?_)
  refine goes_ Try.func117 (by kernel_rfl) rfl #[.int .i64 a0_0, .int .i64 a0_0, .slice Ao8 (firstI a1.toNat).length co8, .func (.func G1) #[] lb1] (by rfl) rfl rfl (by (try simp only [List.map_toArray, List.map_cons, List.map_nil]); first | done | rfl) ?_
  have HCall := impl_listed.state cb I M G1 lb1 eg1 W0 hM hI hcb (a0_0 - a1).toNat a0_0 (firstI a1.toNat) Ao8 co8 a b a' w7 (by have := HN.out; omega) (by rw [firstI_length]; have := HN.out; omega) (hI.out _ _ _ HI.out HB.out) (Kd.R_reads' HO1.out).2.2 (Kd.R_reads' HO1.out).2.1 HG.out (HB0.out.trans (But.of_below HB.out)) H.out
  rw [show (((firstI a1.toNat).length + (a0_0 - a1).toNat : Nat) : Int) = a0_0 from by rw [firstI_length]; have := HN.out; omega] at HCall
  refine HCall.mono ?_
  rintro e w9 ⟨rfl, hi2, hb2⟩
  clear HCall
  refine ⟨_, rfl, ?_⟩
  have n1_ := Aside0.mk (hb2.blk BK1.out (fun hm => by have h1 := HM.out _ hm; have h2 := GW1.out; omega))
  have HB2 := Aside0.mk ((But.of_below (M := M) HB.out).trans hb2)
  clear BK1 HB HO1
  have BK1 := n1_
  clear n1_
  refine hK.out _ _ ⟨(blk_cell BK1.out 0).trans rfl, (blk_cell BK1.out 1).trans rfl⟩ (fun hHeld => ?_)
  clear hK K
  refine norm_ (a' := ?_) ?_ ?_
  rotate_left
  · show Act.put _ (some 14) _ = _
    simp only [Act.put, List.setIfInBounds_toArray, List.set_cons_zero, List.set_cons_succ, i64_w, i32_w]
    rfl
  refine pure_ (i := 8) (N := some 6) (v := ?_) (a' := ?_) #[true, true, true, true, true, true, true, true, true] rfl rfl (by kernel_rfl) (fun _ _ _ h => h) (Or.inl ⟨by rfl, ?_⟩) ?_ ?_
  rotate_left
  · intro w'
    go_simp
    with_reducible rfl
  rotate_left
  · simp only [Act.put, List.setIfInBounds_toArray, List.set_cons_zero, List.set_cons_succ, i64_w, i32_w]
    rfl
  refine done_ (by kernel_rfl) ?_
  try go_wp2
  go_ret
  exact ⟨rfl, hi2, HB2.out⟩
def impl_Graph_orders.f (cb1 : List Int → Option Bool) (a0_0 a0_1 a1 : Int) : Option Bool :=
  if 0 ≤ a1 ∧ a1 ≤ a0_0 ∧ a0_0 ≤ 5 then (lstd (fun l (_ : Unit) => (cb1 l).map fun b => (b, ())) a0_0.toNat (a0_0 - a1).toNat (firstI a1.toNat) ()).map Prod.fst else none
theorem impl_Graph_orders.calls (cb1 : List Int → Option Bool) (G1 : Nat) (lb1 : Array Value) (eg1 : EnterF Try.prog G1) (W0 : World)
    (hcb1 : Aside0 (∀ (A0 : Option Addr) (c0 : Nat) (l0 : List Int) (r : Bool) (W : World), Kd.C (Kd.int .i64) W A0 l0.length l0 → l0.length ≤ c0 → cb1 l0 = some r → Below W0.heap.size W0 W → Calls Try.prog G1 (#[.slice A0 l0.length c0] ++ lb1) W fun e w' => e = .returned (.bool r) ∧ Below W.heap.size W w'))
    (a0_0 a0_1 a1 : Int) (r : Bool) (w : World) (h : impl_Graph_orders.f cb1 a0_0 a0_1 a1 = some r) (hW0 : Aside0 (Below W0.heap.size W0 w)) :
    Calls Try.prog 123 #[.agg #[.int .i64 a0_0, .int .u32 a0_1], .int .i64 a1, .func (.func G1) #[] lb1] w fun e w' => e = .returned (.bool r) ∧ Below w.heap.size w w' := by
  unfold impl_Graph_orders.f at h
  by_cases ok : 0 ≤ a1 ∧ a1 ≤ a0_0 ∧ a0_0 ≤ 5
  · rw [if_pos ok] at h
    obtain ⟨⟨b, u⟩, h1, h2⟩ := Option.map_eq_some_iff.1 h
    obtain rfl : b = r := h2
    have := impl_Graph_orders.state (fun l (_ : Unit) => (cb1 l).map fun b => (b, ())) (fun _ _ => True) (fun _ => False) G1 lb1 eg1 W0 (fun _ hk => hk.elim) ⟨fun _ _ _ _ _ => trivial⟩
      ⟨fun l a b a' A c W _ hC hc hcb hB => by
        obtain ⟨b2, e1, e2⟩ := Option.map_eq_some_iff.1 hcb
        obtain rfl : b2 = b := by injection e2
        exact (hcb1.out A c l b2 W hC hc e1 (hB.below fun _ _ hk => hk)).mono fun e w' h => ⟨h.1, trivial, But.of_below h.2⟩⟩
      a0_0 a0_1 a1 () b u w ok trivial (But.of_below hW0.out) h1
    exact this.mono fun e w' h => ⟨h.1, h.2.2.below fun _ _ hk => hk⟩
  · rw [if_neg ok] at h; cases h

end Go.Proofs.Ytafkdkiagmbeaaa.Q
end

section
/- A contract of one Go function: what it returns for its arguments; printed by the kit's print program or written by hand. -/
namespace Go.Proofs.Ytafkdkiagmbeaaa.Q
open Go.RowKit Go.Proofs.YtafkdkiagmbeaaaW.PrintWords Go.Proofs.YtafkdkiagmbeaaaW.PrintLast Go.Proofs.YtafkdkiagmbeaaaW.PrintMore
attribute [local go_sem] max2_int min2_int max_two min_two max_three min_three max_four min_four   -- for this text's walks alone
set_option linter.unusedVariables false
set_option linter.unusedSimpArgs false

/-! ### impl_bit: function 142 -/
def impl_bit.f (a0 : Int) (a1 : Int) : Option (Int) := if a0 > a1 then ((impl_pairs.f a0).bind fun t333 => (if 0 ≤ (wrap64 (t333 + a1)) then (some (shl .u32 1 (wrap64 (t333 + a1)))) else (none))) else ((impl_pairs.f a1).bind fun t334 => (if 0 ≤ (wrap64 (t334 + a0)) then (some (shl .u32 1 (wrap64 (t334 + a0)))) else (none)))
set_option maxHeartbeats 8000000 in
set_option maxRecDepth 100000 in
theorem impl_bit.calls (a0 : Int) (a1 : Int) (r : Int) (w : World) (h : impl_bit.f a0 a1 = some r) :
    Calls Try.prog 142 #[.int .i64 a0, .int .i64 a1] w fun e w' => e = .returned (.int .u32 r) ∧ Drawn0 w w' := by
  have H : (if a0 > a1 then ((impl_pairs.f a0).bind fun t333 => (if 0 ≤ (wrap64 (t333 + a1)) then (some (shl .u32 1 (wrap64 (t333 + a1)))) else (none))) else ((impl_pairs.f a1).bind fun t334 => (if 0 ≤ (wrap64 (t334 + a0)) then (some (shl .u32 1 (wrap64 (t334 + a0)))) else (none)))) = some r := h
  clear h
  by_cases c3 : a0 > a1
  · rw [if_pos c3] at H
    have c3b0 : decide (a1 < a0) = true := decide_eq_true c3
    clear c3
    replace H := Option.bind_eq_some_iff.mp H
    obtain ⟨t333, A40, H⟩ := H
    replace H : (if 0 ≤ (wrap64 (t333 + a1)) then (some (shl .u32 1 (wrap64 (t333 + a1)))) else (none)) = some r := H
    have A4 := Aside0.mk A40
    clear A40
    obtain ⟨ji5, hji5⟩ : ∃ j_ : Int, (wrap64 (t333 + a1)) = j_ := ⟨_, rfl⟩
    replace H : (if 0 ≤ (ji5) then (some (shl .u32 1 (ji5))) else (none)) = some r := by first | (rw [hji5] at H; exact H) | (simp only [hji5] at H ⊢; exact H)
    (try rw [hji5] at A4)
    have hji5w : (IntKind.i64.wrap (t333 + a1)) = ji5 := (i64_w _).trans hji5
    by_cases c6 : 0 ≤ (ji5)
    · rw [if_pos c6] at H
      have c6b0 := eq_true c6
      have c6b1 : decide (0 ≤ (ji5)) = true := decide_eq_true c6
      clear c6
      obtain ⟨ji7, hji7⟩ : ∃ j_ : Int, (shl .u32 1 (ji5)) = j_ := ⟨_, rfl⟩
      replace H : (some ji7) = some r := by first | (rw [hji7] at H; exact H) | (simp only [hji7] at H ⊢; exact H)
      (try rw [hji7] at A4)
      have hji7_ : (IntKind.u32.wrap (1 * 2 ^ min (ji5).toNat 32)) = ji7 := hji7
      have hji7z : (ji5) ≤ 32 → (IntKind.u32.wrap (1 * 2 ^ (ji5).toNat)) = ji7 := shl_small hji7
      have hji7u : (IntKind.u32.wrap (2 ^ min (ji5).toNat 32)) = ji7 := by have h_ := hji7_; rw [Int.one_mul] at h_; exact h_
      have hji7v : (ji5) ≤ 32 → (IntKind.u32.wrap (2 ^ (ji5).toNat)) = ji7 := fun hle_ => by have h_ := hji7z hle_; rw [Int.one_mul] at h_; exact h_
      obtain rfl := Option.some.inj H
      go_enter Try.func142, Try.ntmps142
      go_wp2_with (first | ((with_reducible refine gate_callee (f := 113) rfl ?_); refine goesL_ (some 11) rfl rfl Try.func113 (by kernel_rfl) rfl #[.int .i64 a0] rfl (by (try simp only [List.map_toArray, List.map_cons, List.map_nil]); first | done | rfl | (simp only [List.length_drop, List.length_take]; rfl)) ?_; (with_reducible refine (impl_pairs.calls a0 t333 _ A4.out).mono ?_); rintro e w' ⟨rfl, ⟨nd, rfl⟩⟩; refine ⟨_, rfl, ?_⟩))
      go_ret
      exact ⟨by first | rfl | (simp; done) | (simp only [← hji5, ← hji7] <;> (first | rfl | simp)) | (simp [*]; done), by repeat (first | exact Drawn0.refl _ | apply Drawn0.step)⟩
    · rw [if_neg c6] at H
      exact absurd H (by simp)
  · rw [if_neg c3] at H
    have c3b0 : decide (a1 < a0) = false := decide_eq_false c3
    clear c3
    replace H := Option.bind_eq_some_iff.mp H
    obtain ⟨t334, A80, H⟩ := H
    replace H : (if 0 ≤ (wrap64 (t334 + a0)) then (some (shl .u32 1 (wrap64 (t334 + a0)))) else (none)) = some r := H
    have A8 := Aside0.mk A80
    clear A80
    obtain ⟨ji9, hji9⟩ : ∃ j_ : Int, (wrap64 (t334 + a0)) = j_ := ⟨_, rfl⟩
    replace H : (if 0 ≤ (ji9) then (some (shl .u32 1 (ji9))) else (none)) = some r := by first | (rw [hji9] at H; exact H) | (simp only [hji9] at H ⊢; exact H)
    (try rw [hji9] at A8)
    have hji9w : (IntKind.i64.wrap (t334 + a0)) = ji9 := (i64_w _).trans hji9
    by_cases c10 : 0 ≤ (ji9)
    · rw [if_pos c10] at H
      have c10b0 := eq_true c10
      have c10b1 : decide (0 ≤ (ji9)) = true := decide_eq_true c10
      clear c10
      obtain ⟨ji11, hji11⟩ : ∃ j_ : Int, (shl .u32 1 (ji9)) = j_ := ⟨_, rfl⟩
      replace H : (some ji11) = some r := by first | (rw [hji11] at H; exact H) | (simp only [hji11] at H ⊢; exact H)
      (try rw [hji11] at A8)
      have hji11_ : (IntKind.u32.wrap (1 * 2 ^ min (ji9).toNat 32)) = ji11 := hji11
      have hji11z : (ji9) ≤ 32 → (IntKind.u32.wrap (1 * 2 ^ (ji9).toNat)) = ji11 := shl_small hji11
      have hji11u : (IntKind.u32.wrap (2 ^ min (ji9).toNat 32)) = ji11 := by have h_ := hji11_; rw [Int.one_mul] at h_; exact h_
      have hji11v : (ji9) ≤ 32 → (IntKind.u32.wrap (2 ^ (ji9).toNat)) = ji11 := fun hle_ => by have h_ := hji11z hle_; rw [Int.one_mul] at h_; exact h_
      obtain rfl := Option.some.inj H
      go_enter Try.func142, Try.ntmps142
      go_wp2_with (first | ((with_reducible refine gate_callee (f := 113) rfl ?_); refine goesL_ (some 11) rfl rfl Try.func113 (by kernel_rfl) rfl #[.int .i64 a1] rfl (by (try simp only [List.map_toArray, List.map_cons, List.map_nil]); first | done | rfl | (simp only [List.length_drop, List.length_take]; rfl)) ?_; (with_reducible refine (impl_pairs.calls a1 t334 _ A8.out).mono ?_); rintro e w' ⟨rfl, ⟨nd, rfl⟩⟩; refine ⟨_, rfl, ?_⟩))
      go_ret
      exact ⟨by first | rfl | (simp; done) | (simp only [← hji9, ← hji11] <;> (first | rfl | simp)) | (simp [*]; done), by repeat (first | exact Drawn0.refl _ | apply Drawn0.step)⟩
    · rw [if_neg c10] at H
      exact absurd H (by simp)

end Go.Proofs.Ytafkdkiagmbeaaa.Q
end
