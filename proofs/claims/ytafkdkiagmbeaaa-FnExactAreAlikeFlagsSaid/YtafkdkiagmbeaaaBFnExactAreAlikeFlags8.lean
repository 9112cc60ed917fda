/- Contracts of Go functions and plain lemmas over what they compute; printed by the kit's print program or written by hand, joined. -/
import Derived.Test.YtafkdkiagmbeaaaBFnExactAreAlikeFlags1
import Derived.Test.YtafkdkiagmbeaaaBFnExactAreAlikeFlags4
import Derived.Test.YtafkdkiagmbeaaaBFnExactAreAlikeFlags7
import Derived.Test.YtafkdkiagmbeaaaBFnExactAreAlikeFlags3
section
/- A contract of one Go function: what it returns for its arguments; printed by the kit's print program or written by hand. -/
namespace Go.Proofs.Ytafkdkiagmbeaaa.Q
open Go.RowKit Go.Proofs.YtafkdkiagmbeaaaW.PrintWords Go.Proofs.YtafkdkiagmbeaaaW.PrintLast Go.Proofs.YtafkdkiagmbeaaaW.PrintMore
attribute [local go_sem] max2_int min2_int max_two min_two max_three min_three max_four min_four   -- for this text's walks alone
set_option linter.unusedVariables false
set_option linter.unusedSimpArgs false

/-! ### slices_Clip: function 139 -/
set_option maxHeartbeats 8000000 in
set_option maxRecDepth 100000 in
theorem slices_Clip.calls (A0 : Option Addr) (c0 : Nat) (l0 : List Int) (w : World) (hr0 : Kd.C (Kd.int .i64) w A0 l0.length l0) (hc0 : l0.length ≤ c0) :
    Calls Try.prog 139 #[.slice A0 l0.length c0] w fun e w' => e = .returned (.slice A0 l0.length l0.length) ∧ Drawn0 w w' := by
  have hmax : l0.length ≤ 9223372036854775807 := hr0.2.1
  have hA := hr0.2.2
  clear hr0
  go_enter Try.func139, Try.ntmps139
  go_wp2
  go_ret
  exact ⟨rfl, Drawn0.refl _⟩

end Go.Proofs.Ytafkdkiagmbeaaa.Q
end

section
/- A contract of one Go function: what it returns for its arguments; printed by the kit's print program or written by hand. -/
namespace Go.Proofs.Ytafkdkiagmbeaaa.Q
open Go.RowKit Go.Proofs.YtafkdkiagmbeaaaW.PrintWords Go.Proofs.YtafkdkiagmbeaaaW.PrintLast Go.Proofs.YtafkdkiagmbeaaaW.PrintMore
attribute [local go_sem] max2_int min2_int max_two min_two max_three min_three max_four min_four   -- for this text's walks alone
set_option linter.unusedVariables false
set_option linter.unusedSimpArgs false

/-! #### pure: Lists -/
theorem w64_succ {i : Nat} (h : i < 1048577) : wrap64 ((i : Int) + 1) = ((i + 1 : Nat) : Int) := by unfold wrap64; omega
theorem getD_of_lt {α : Type} (l : List α) (d : α) {i : Nat} (h : i < l.length) : l.getD ((i : Int)).toNat d = l[i] := by
  rw [Int.toNat_natCast, List.getD_eq_getElem?_getD, List.getElem?_eq_getElem h]; rfl
theorem set_take {α : Type} (out : List α) (x : α) {i : Nat} (h : i < out.length) : (out.set i x).take (i + 1) = out.take i ++ [x] := by
  rw [List.take_succ_eq_append_getElem (by rw [List.length_set]; exact h), List.take_set_of_le (Nat.le_refl _), List.getElem_set_self]
theorem rd_of_lt (l : List Int) {i : Nat} (h : i < l.length) : rd l (i : Int) = l[i] := by unfold rd; exact getD_of_lt l 0 h
theorem pigeon : ∀ (n : Nat) (l : List Int), l.Nodup → (∀ x ∈ l, 0 ≤ x ∧ x < (n : Int)) → l.length ≤ n
  | 0, l, _, h => by
    cases l with
    | nil => exact Nat.le_refl _
    | cons a l => have := h a (List.mem_cons_self); omega
  | n + 1, l, hd, h => by
    by_cases hn : (n : Int) ∈ l
    · have := pigeon n (l.erase n) (hd.erase _) fun x hx => by
        rw [hd.mem_erase_iff] at hx
        have := h x hx.2
        have := hx.1
        omega
      rw [List.length_erase_of_mem hn] at this
      omega
    · have := pigeon n l hd fun x hx => by
        have := h x hx
        have : x ≠ n := fun e => hn (e ▸ hx)
        omega
      omega

end Go.Proofs.Ytafkdkiagmbeaaa.Q
end

section
/- A contract of one Go function: what it returns for its arguments; printed by the kit's print program or written by hand. -/
namespace Go.Proofs.Ytafkdkiagmbeaaa.Q
open Go.RowKit Go.Proofs.YtafkdkiagmbeaaaW.PrintWords Go.Proofs.YtafkdkiagmbeaaaW.PrintLast Go.Proofs.YtafkdkiagmbeaaaW.PrintMore
attribute [local go_sem] max2_int min2_int max_two min_two max_three min_three max_four min_four   -- for this text's walks alone
set_option linter.unusedVariables false
set_option linter.unusedSimpArgs false

/-! #### pure: Among -/
theorem mem_drop_cons {l : List Int} {i : Nat} (hi : i < l.length) (x : Int) : x ∈ l.drop i ↔ l[i] = x ∨ x ∈ l.drop (i + 1) := by
  rw [List.drop_eq_getElem_cons hi, List.mem_cons, eq_comm]
theorem among_loop (l : List Int) (hl : l.length ≤ 1048576) (x : Int) : ∀ (d i k : Nat), i + d = l.length → d + 1 ≤ k → spec_l01Among.l0 k l x i = some (decide (x ∈ l.drop i))
  | 0, i, k, hd, hk => by
    obtain ⟨k, rfl⟩ : ∃ q, k = q + 1 := ⟨k - 1, by omega⟩
    rw [spec_l01Among.l0, if_neg (by omega), List.drop_eq_nil_of_le (by omega)]; rfl
  | d + 1, i, k, hd, hk => by
    obtain ⟨k, rfl⟩ : ∃ q, k = q + 1 := ⟨k - 1, by omega⟩
    have hi : i < l.length := by omega
    have ih := among_loop l hl x d (i + 1) k (by omega) (by omega)
    rw [spec_l01Among.l0, if_pos (by omega), if_pos (by omega), w64_succ (by omega), rd_of_lt l hi]
    by_cases h : l[i] = x
    · rw [if_pos h, decide_eq_true ((mem_drop_cons hi x).2 (Or.inl h))]
    · rw [if_neg h, ih]
      congr 1
      rw [decide_eq_decide, mem_drop_cons hi]
      exact ⟨fun a => Or.inr a, fun a => a.resolve_left h⟩
theorem among_eq (l : List Int) (hl : l.length ≤ 1048576) (x : Int) (k : Nat) (hk : l.length + 1 ≤ k) : spec_l01Among.f k l x = some (decide (x ∈ l)) := by
  unfold spec_l01Among.f
  exact among_loop l hl x l.length 0 k (by omega) hk

end Go.Proofs.Ytafkdkiagmbeaaa.Q
end

section
/- A contract of one Go function: what it returns for its arguments; printed by the kit's print program or written by hand. -/
namespace Go.Proofs.Ytafkdkiagmbeaaa.Q
open Go.RowKit Go.Proofs.YtafkdkiagmbeaaaW.PrintWords Go.Proofs.YtafkdkiagmbeaaaW.PrintLast Go.Proofs.YtafkdkiagmbeaaaW.PrintMore
attribute [local go_sem] max2_int min2_int max_two min_two max_three min_three max_four min_four   -- for this text's walks alone
set_option linter.unusedVariables false
set_option linter.unusedSimpArgs false

/-! #### pure: Contains -/
theorem index_loop (l : List Int) (hl : l.length ≤ 1048576) (x : Int) : ∀ (d i k : Nat), i + d = l.length → d + 1 ≤ k → (x ∈ l.drop i → ∃ r : Int, 0 ≤ r ∧ slices_Index_int64_int64.l0 k l x (l.length : Int) i = some r) ∧ (x ∉ l.drop i → slices_Index_int64_int64.l0 k l x (l.length : Int) i = some (-1))
  | 0, i, k, hd, hk => by
    obtain ⟨k, rfl⟩ : ∃ q, k = q + 1 := ⟨k - 1, by omega⟩
    rw [slices_Index_int64_int64.l0, if_neg (by omega), List.drop_eq_nil_of_le (by omega)]
    exact ⟨fun h => absurd h (by simp), fun _ => rfl⟩
  | d + 1, i, k, hd, hk => by
    obtain ⟨k, rfl⟩ : ∃ q, k = q + 1 := ⟨k - 1, by omega⟩
    have hi : i < l.length := by omega
    have ih := index_loop l hl x d (i + 1) k (by omega) (by omega)
    rw [slices_Index_int64_int64.l0, if_pos (by omega), if_pos (by omega), if_pos (by omega), w64_succ (by omega), rd_of_lt l hi, mem_drop_cons hi]
    by_cases h : x = l[i]
    · rw [if_pos h]
      exact ⟨fun _ => ⟨i, by omega, rfl⟩, fun a => absurd (Or.inl h.symm) a⟩
    · rw [if_neg h]
      exact ⟨fun a => ih.1 (a.resolve_left (fun e => h e.symm)), fun a => ih.2 (fun b => a (Or.inr b))⟩
theorem contains_eq (l : List Int) (hl : l.length ≤ 1048576) (x : Int) (k : Nat) (hk : l.length + 1 ≤ k) : slices_Contains_int64_int64.f k l x = some (decide (x ∈ l)) := by
  unfold slices_Contains_int64_int64.f slices_Index_int64_int64.f
  have h := index_loop l hl x l.length 0 k (by omega) hk
  rw [show ((0 : Nat) : Int) = 0 from rfl, List.drop_zero] at h
  by_cases m : x ∈ l
  · obtain ⟨r, h0, e⟩ := h.1 m
    rw [e, decide_eq_true m]; simp [h0]
  · rw [h.2 m, decide_eq_false m]; rfl

end Go.Proofs.Ytafkdkiagmbeaaa.Q
end

section
/- A contract of one Go function: what it returns for its arguments; printed by the kit's print program or written by hand. -/
namespace Go.Proofs.Ytafkdkiagmbeaaa.Q
open Go.RowKit Go.Proofs.YtafkdkiagmbeaaaW.PrintWords Go.Proofs.YtafkdkiagmbeaaaW.PrintLast Go.Proofs.YtafkdkiagmbeaaaW.PrintMore
attribute [local go_sem] max2_int min2_int max_two min_two max_three min_three max_four min_four   -- for this text's walks alone
set_option linter.unusedVariables false
set_option linter.unusedSimpArgs false

/-! ### impl_listed: function 117 -/
/-- One place of the list: every number in turn that the list does not hold yet, until the rest says enough. -/
def lstdIn {σ : Type} (f : List Int → σ → Option (Bool × σ)) (l : List Int) : Nat → Nat → σ → Option (Bool × σ)
  | 0, _, a => some (false, a)
  | d + 1, i, a => if (i : Int) ∈ l then lstdIn f l d (i + 1) a else (f (l ++ [(i : Int)]) a).bind fun p => if p.1 = true then some (true, p.2) else lstdIn f l d (i + 1) p.2
/-- All lists of different numbers below n that go on from l by r places, in order, until cb says enough. -/
def lstd {σ : Type} (cb : List Int → σ → Option (Bool × σ)) (n : Nat) : Nat → List Int → σ → Option (Bool × σ)
  | 0, l, a => cb l a
  | r + 1, l, a => lstdIn (lstd cb n r) l n 0 a
set_option maxHeartbeats 16000000 in
set_option maxRecDepth 100000 in
theorem impl_listed.state {σ : Type} (cb : List Int → σ → Option (Bool × σ)) (I : σ → World → Prop) (M : Nat → Prop) (G1 : Nat) (lb1 : Array Value) (eg1 : EnterF Try.prog G1) (W0 : World) (hM : ∀ k, M k → k < W0.heap.size)
    (hI : Aside0 (∀ a W W', I a W → Below W.heap.size W W' → I a W'))
    (hcb : Aside0 (∀ (l : List Int) (a : σ) (b : Bool) (a' : σ) (A : Option Addr) (c : Nat) (W : World), I a W → Kd.C (Kd.int .i64) W A l.length l → l.length ≤ c → cb l a = some (b, a') → But M W0 W → Calls Try.prog G1 (#[.slice A l.length c] ++ lb1) W fun e w' => e = .returned (.bool b) ∧ I a' w' ∧ But M W w')) :
    ∀ (r : Nat) (n : Int) (l0 : List Int) (A0 : Option Addr) (c0 : Nat) (a : σ) (b : Bool) (a' : σ) (w : World), n ≤ 1000 → l0.length + r ≤ 1000 → I a w → Kd.C (Kd.int .i64) w A0 l0.length l0 → l0.length ≤ c0 → (∀ ad, A0 = some ad → ¬ M ad.block) → But M W0 w → lstd cb n.toNat r l0 a = some (b, a') →
    Calls Try.prog 117 #[.int .i64 n, .int .i64 ((l0.length + r : Nat) : Int), .slice A0 l0.length c0, .func (.func G1) #[] lb1] w fun e w' => e = .returned (.bool b) ∧ I a' w' ∧ But M w w'
  | 0, n, l0, A0, c0, a, b, a', w, hn, hl, hi, hr, hc, hA, hB, h => by
    have HI := Aside0.mk hi
    have HR := Aside0.mk hr
    have HC := Aside0.mk hc
    have HB := Aside0.mk hB
    have H := Aside0.mk h
    clear hi hr hc hB h hA
    have q1 : ((l0.length : Int) == ((l0.length + 0 : Nat) : Int)) = true := by simp
    go_enter Try.func117, Try.ntmps117
    go_wp2_with ((with_reducible refine gate_value (t := 14) rfl ?_); refine goesF_ (some 16) rfl rfl eg1 #[.slice A0 l0.length c0] rfl rfl (by (try simp only [List.map_toArray, List.map_cons, List.map_nil]); first | done | rfl) ?_; (refine (hcb.out l0 a b a' A0 c0 w HI.out HR.out HC.out H.out HB.out).mono ?_); rintro e w' ⟨rfl, hi', hb'⟩; refine ⟨_, rfl, ?_⟩)
    go_ret
    exact ⟨rfl, hi', hb'⟩
  | r + 1, n, l0, A0, c0, a, b, a', w, hn, hl, hi, hr, hc, hA, hB, h => by
    have ih := Aside0.mk (impl_listed.state cb I M G1 lb1 eg1 W0 hM hI hcb r)
    have HN := Aside0.mk (show n ≤ 1000 ∧ l0.length + (r + 1) ≤ 1000 from ⟨hn, hl⟩)
    have HI0 := Aside0.mk hi
    have HR := Aside0.mk hr
    have HC := Aside0.mk hc
    have HA := Aside0.mk hA
    have HB0 := Aside0.mk hB
    have H := Aside0.mk h
    clear hn hl hi hr hc hA hB h
    have q1 : ((l0.length : Int) == ((l0.length + (r + 1) : Nat) : Int)) = false := by rw [beq_eq_false_iff_ne]; omega
    obtain ⟨i0, hi0, hz0, hs0, hb0⟩ := info_parts info2
    have INF := Aside0.mk (show Try.prog.info? 2 = some i0 ∧ i0.zero = some (.int .i64 0) ∧ i0.size = 1 ∧ i0.bytes = 8 from ⟨hi0, hz0, hs0, hb0⟩)
    clear hi0 hz0 hs0 hb0
    obtain ⟨N, hN⟩ : ∃ N : Int, N = ((l0.length + (r + 1) : Nat) : Int) := ⟨_, rfl⟩
    rw [← hN] at q1
    rw [← hN]
    have NN := Aside0.mk hN
    clear hN
    go_enter Try.func117, Try.ntmps117
    go_wp2
    go_loopg [18] (n.toNat + 1) (fun kq v18 w' => ∃ (i : Nat) (a1 : σ), v18 = .int .i64 i ∧ Aside0 (kq + i = n.toNat + 1) ∧ Aside0 (i ≤ n.toNat) ∧ Aside0 (lstdIn (lstd cb n.toNat r) l0 (n.toNat - i) i a1 = some (b, a')) ∧ Aside0 (I a1 w') ∧ Aside0 (But M w w'))
    case atStart => exact ⟨0, a, rfl, ⟨by omega⟩, ⟨by omega⟩, ⟨H.out⟩, HI0, ⟨But.refl _ _⟩⟩
    case round =>
      obtain ⟨i, a1, rfl, HK1, HJ, H1, HI, HB⟩ := hrel
      clear H HI0
      cases gk with
      | zero => exact absurd HK1.out (by have := HJ.out; omega)
      | succ k1 =>
        have HRw := Aside0.mk (HB.out.C_int HR.out HA.out)
        by_cases c : (i : Int) < n
        · have c0b : decide ((i : Int) < n) = true := decide_eq_true c
          have hd : n.toNat - i = (n.toNat - (i + 1)) + 1 := by omega
          have H2 := H1.out
          rw [hd, lstdIn] at H2
          have hwi : Aside0 (wrap64 ((i : Int) + 1) = ((i + 1 : Nat) : Int)) := ⟨by have := HN.out; unfold wrap64; omega⟩
          have HJ' : Aside0 (i + 1 ≤ n.toNat) := ⟨by omega⟩
          clear c hd H1
          by_cases cm : (i : Int) ∈ l0
          · rw [if_pos cm] at H2
            have HCt := Aside0.mk (contains_eq l0 (by have := HN.out; omega) (i : Int) (l0.length + 1) (Nat.le_refl _))
            rw [decide_eq_true cm] at HCt
            have H3 := Aside0.mk H2
            clear cm H2
            go_wp2_with (go_at_call 115; (with_reducible refine (slices_Contains_int64_int64.calls (l0.length + 1) A0 c0 l0 (i : Int) true _ HRw.out HC.out HCt.out).mono ?_); rintro e w' ⟨rfl, ⟨nd, rfl⟩⟩)
            go_roundg k1
            case measure => omega
            case rel => exact ⟨i + 1, a1, by rw [hwi.out], ⟨by have := HK1.out; omega⟩, HJ', H3, ⟨hI.out _ _ _ HI.out (by repeat (first | exact Below.refl _ _ | apply pw_below_drewN | apply below_drew1))⟩, ⟨HB.out.trans (But.of_below (by repeat (first | exact Below.refl _ _ | apply pw_below_drewN | apply below_drew1)))⟩⟩
          · rw [if_neg cm] at H2
            have HCt := Aside0.mk (contains_eq l0 (by have := HN.out; omega) (i : Int) (l0.length + 1) (Nat.le_refl _))
            rw [decide_eq_false cm] at HCt
            obtain ⟨⟨b1, a2⟩, H3, H4⟩ := Option.bind_eq_some_iff.mp H2
            have HP := Aside0.mk H3
            clear cm H2 H3
            have HS : Aside0 (∀ (g cap : Nat) (w1 : World), Kd.C (Kd.int .i64) w1 (some ⟨g, 0, none⟩) (l0 ++ [(i : Int)]).length (l0 ++ [(i : Int)]) → (l0 ++ [(i : Int)]).length ≤ cap → wr.heap.size ≤ g → Below wr.heap.size wr w1 → Calls Try.prog 117 #[.int .i64 n, .int .i64 N, .slice (some ⟨g, 0, none⟩) (l0.length + 1) cap, .func (.func G1) #[] lb1] w1 fun e w' => e = .returned (.bool b1) ∧ I a2 w' ∧ But M w1 w') := ⟨fun g cap w1 h1 h2 h3 h4 => by
              have h0 := (HB0.out.trans HB.out)
              have := ih.out n (l0 ++ [(i : Int)]) (some ⟨g, 0, none⟩) cap a1 b1 a2 w1 HN.out.1 (by rw [List.length_append]; simp only [List.length_cons, List.length_nil]; have := HN.out; omega) (hI.out _ _ _ HI.out h4) h1 h2 (fun ad e hm => by cases e; have := hM _ hm; have := h0.size; simp only at *; omega) (h0.trans (But.of_below h4)) HP.out
              rw [show (l0 ++ [(i : Int)]).length + r = l0.length + (r + 1) from by rw [List.length_append]; simp only [List.length_cons, List.length_nil]; omega, ← NN.out, show (l0 ++ [(i : Int)]).length = l0.length + 1 from by rw [List.length_append]; rfl] at this
              exact this⟩
            cases b1 with
            | true =>
              obtain ⟨rfl, rfl⟩ : true = b ∧ a2 = a' := by simpa using H4
              clear H4
              go_wp2_with (first
                | (go_at_call 115; (with_reducible refine (slices_Contains_int64_int64.calls (l0.length + 1) A0 c0 l0 (i : Int) false _ HRw.out HC.out HCt.out).mono ?_); rintro e w' ⟨rfl, ⟨nd, rfl⟩⟩)
                | (go_at_call 139; (with_reducible refine (slices_Clip.calls A0 c0 l0 _ (by repeat (first | exact HRw.out | apply Kd.C_drewN | apply Kd.C_drew)) HC.out).mono ?_); rintro e w' ⟨rfl, ⟨nd2, rfl⟩⟩)
                | (at_builtin; refine wpList_app_full _ (by rfl) _ _ 54 rfl 2 i0 .i64 8 Try.underlying54 INF.out.1 INF.out.2.1 INF.out.2.2.1 INF.out.2.2.2 (by decide) A0 l0 rfl (by repeat (first | exact HRw.out | apply Kd.C_alloc | apply Kd.C_drewN | apply Kd.C_drew)) _ _ (i : Int) rfl (cell_alloc _ _ _) (by have := HN.out; omega) ?_; intro g cap w1 hC1 hcap hg hg2 hgr; have HBl := Aside0.mk (below_app (w := wr) (by repeat (first | exact Below.refl _ _ | apply below_alloc | apply pw_below_drewN | apply below_drew1)) hgr); have HCall := Aside0.mk (HS.out g cap w1 hC1 hcap (Nat.le_trans (by first | exact Nat.le_refl _ | exact Nat.le_succ _ | simp) hg) HBl.out); clear hC1 hcap hg hg2 hgr)
                | (go_at_call 117; (with_reducible refine HCall.out.mono ?_); rintro e w2 ⟨rfl, hi2, hb2⟩))
              go_ret
              exact ⟨rfl, hi2, (HB.out.trans (But.of_below HBl.out)).trans hb2⟩
            | false =>
              have H5 := Aside0.mk (show lstdIn (lstd cb n.toNat r) l0 (n.toNat - (i + 1)) (i + 1) a2 = some (b, a') by simpa using H4)
              clear H4
              go_wp2_with (first
                | (go_at_call 115; (with_reducible refine (slices_Contains_int64_int64.calls (l0.length + 1) A0 c0 l0 (i : Int) false _ HRw.out HC.out HCt.out).mono ?_); rintro e w' ⟨rfl, ⟨nd, rfl⟩⟩)
                | (go_at_call 139; (with_reducible refine (slices_Clip.calls A0 c0 l0 _ (by repeat (first | exact HRw.out | apply Kd.C_drewN | apply Kd.C_drew)) HC.out).mono ?_); rintro e w' ⟨rfl, ⟨nd2, rfl⟩⟩)
                | (at_builtin; refine wpList_app_full _ (by rfl) _ _ 54 rfl 2 i0 .i64 8 Try.underlying54 INF.out.1 INF.out.2.1 INF.out.2.2.1 INF.out.2.2.2 (by decide) A0 l0 rfl (by repeat (first | exact HRw.out | apply Kd.C_alloc | apply Kd.C_drewN | apply Kd.C_drew)) _ _ (i : Int) rfl (cell_alloc _ _ _) (by have := HN.out; omega) ?_; intro g cap w1 hC1 hcap hg hg2 hgr; have HBl := Aside0.mk (below_app (w := wr) (by repeat (first | exact Below.refl _ _ | apply below_alloc | apply pw_below_drewN | apply below_drew1)) hgr); have HCall := Aside0.mk (HS.out g cap w1 hC1 hcap (Nat.le_trans (by first | exact Nat.le_refl _ | exact Nat.le_succ _ | simp) hg) HBl.out); clear hC1 hcap hg hg2 hgr)
                | (go_at_call 117; (with_reducible refine HCall.out.mono ?_); rintro e w2 ⟨rfl, hi2, hb2⟩))
              go_roundg k1
              case measure => omega
              case rel => exact ⟨i + 1, a2, by rw [hwi.out], ⟨by have := HK1.out; omega⟩, HJ', H5, ⟨hi2⟩, ⟨(HB.out.trans (But.of_below HBl.out)).trans hb2⟩⟩
        · have c0b : decide ((i : Int) < n) = false := decide_eq_false c
          have H2 := H1.out
          rw [show n.toNat - i = 0 from by omega, lstdIn] at H2
          obtain ⟨rfl, rfl⟩ : false = b ∧ a1 = a' := by simpa using H2
          clear c H1 H2
          go_wp2
          go_ret
          exact ⟨rfl, HI.out, HB.out⟩
def impl_listed.f (cb1 : List Int → Option Bool) (a0 : Int) (a1 : Int) (l2 : List Int) : Option Bool :=
  if a0 ≤ 1000 ∧ a1 ≤ 1000 ∧ (l2.length : Int) ≤ a1 then (lstd (fun l (_ : Unit) => (cb1 l).map fun b => (b, ())) a0.toNat (a1.toNat - l2.length) l2 ()).map Prod.fst else none
theorem impl_listed.calls (cb1 : List Int → Option Bool) (G1 : Nat) (lb1 : Array Value) (eg1 : EnterF Try.prog G1) (W0 : World)
    (hcb1 : Aside0 (∀ (A0 : Option Addr) (c0 : Nat) (l0 : List Int) (r : Bool) (W : World), Kd.C (Kd.int .i64) W A0 l0.length l0 → l0.length ≤ c0 → cb1 l0 = some r → Below W0.heap.size W0 W → Calls Try.prog G1 (#[.slice A0 l0.length c0] ++ lb1) W fun e w' => e = .returned (.bool r) ∧ Below W.heap.size W w'))
    (a0 : Int) (a1 : Int) (A2 : Option Addr) (c2 : Nat) (l2 : List Int) (r : Bool) (w : World) (hr2 : Kd.C (Kd.int .i64) w A2 l2.length l2) (hc2 : l2.length ≤ c2) (h : impl_listed.f cb1 a0 a1 l2 = some r) (hW0 : Aside0 (Below W0.heap.size W0 w)) :
    Calls Try.prog 117 #[.int .i64 a0, .int .i64 a1, .slice A2 l2.length c2, .func (.func G1) #[] lb1] w fun e w' => e = .returned (.bool r) ∧ Below w.heap.size w w' := by
  unfold impl_listed.f at h
  by_cases ok : a0 ≤ 1000 ∧ a1 ≤ 1000 ∧ (l2.length : Int) ≤ a1
  · rw [if_pos ok] at h
    obtain ⟨⟨b, u⟩, h1, h2⟩ := Option.map_eq_some_iff.1 h
    obtain rfl : b = r := h2
    have := impl_listed.state (fun l (_ : Unit) => (cb1 l).map fun b => (b, ())) (fun _ _ => True) (fun _ => False) G1 lb1 eg1 W0 (fun _ hk => hk.elim) ⟨fun _ _ _ _ _ => trivial⟩
      ⟨fun l a b a' A c W _ hC hc hcb hB => by
        obtain ⟨b2, e1, e2⟩ := Option.map_eq_some_iff.1 hcb
        obtain rfl : b2 = b := by injection e2
        exact (hcb1.out A c l b2 W hC hc e1 (hB.below fun _ _ hk => hk)).mono fun e w' h => ⟨h.1, trivial, But.of_below h.2⟩⟩
      (a1.toNat - l2.length) a0 l2 A2 c2 () b u w ok.1 (by omega) trivial hr2 hc2 (fun _ _ hk => hk) (But.of_below hW0.out) h1
    rw [show ((l2.length + (a1.toNat - l2.length) : Nat) : Int) = a1 from by omega] at this
    exact this.mono fun e w' h => ⟨h.1, h.2.2.below fun _ _ hk => hk⟩
  · rw [if_neg ok] at h; cases h

end Go.Proofs.Ytafkdkiagmbeaaa.Q
end

section
/- A contract of one Go function: what it returns for its arguments; printed by the kit's print program or written by hand. -/
namespace Go.Proofs.Ytafkdkiagmbeaaa.Q
open Go.RowKit Go.Proofs.YtafkdkiagmbeaaaW.PrintWords Go.Proofs.YtafkdkiagmbeaaaW.PrintLast Go.Proofs.YtafkdkiagmbeaaaW.PrintMore
attribute [local go_sem] max2_int min2_int max_two min_two max_three min_three max_four min_four   -- for this text's walks alone
set_option linter.unusedVariables false
set_option linter.unusedSimpArgs false

/-! ### impl_first: function 141 -/
def impl_first.l0 : Nat → List Int → Int → Int → Option (List Int)
  | 0, _, _, _ => none
  | k + 1, x3, x6, x7 => if x7 < x6 then (if x3.length < 17592186044416 then (impl_first.l0 k (x3 ++ [x7]) x6 (wrap64 (x7 + 1))) else (none)) else (some x3)
def impl_first.f (k : Nat) (a0 : Int) : Option (List Int) := impl_first.l0 k (([] : List Int)) a0 0
theorem impl_first.mono_l : ∀ k, (∀ y0 y1 y2, LeO (impl_first.l0 k y0 y1 y2) (impl_first.l0 (k + 1) y0 y1 y2))
  | 0 => fun _ _ _ r h => by simp [impl_first.l0] at h
  | k + 1 => by
    have ih0 := impl_first.mono_l k
    · intro y0 y1 y2
      unfold impl_first.l0
      repeat' first
      | (with_reducible exact ih0 _ _ _)
      | (with_reducible exact LeO.refl _)
      | (with_reducible exact LeO.none _)
      | (with_reducible refine LeO.ite ?_ ?_)
      | (with_reducible refine LeO.bind ?_ (fun _ => ?_))
      | exact ih0 _ _ _
      | exact LeO.none _
      | refine LeO.ite ?_ ?_
      | refine LeO.bind ?_ (fun _ => ?_)
theorem impl_first.mono : ∀ a0 k, LeO (impl_first.f k a0) (impl_first.f (k + 1) a0) := by
  intro a0 k
  have ih0 := impl_first.mono_l k
  unfold impl_first.f
  repeat' first
      | (with_reducible exact ih0 _ _ _)
      | (with_reducible exact LeO.refl _)
      | (with_reducible exact LeO.none _)
      | (with_reducible refine LeO.ite ?_ ?_)
      | (with_reducible refine LeO.bind ?_ (fun _ => ?_))
      | exact ih0 _ _ _
      | exact LeO.none _
      | refine LeO.ite ?_ ?_
      | refine LeO.bind ?_ (fun _ => ?_)
set_option maxHeartbeats 8000000 in
set_option maxRecDepth 100000 in
theorem impl_first.calls (k : Nat) (a0 : Int) (r : List Int) (w : World) (h : impl_first.f k a0 = some r) :
    Calls Try.prog 141 #[.int .i64 a0] w fun e w' => ∃ v0_ : Value, e = .returned (v0_) ∧ Kd.R (Kd.int .i64) 2 w' w.heap.size (fun _ => True) v0_ r ∧ Below w.heap.size w w' := by
  have HB := Aside0.mk (Below.refl w.heap.size w)
  have H : (impl_first.l0 k (([] : List Int)) a0 0) = some r := h
  clear h
  obtain ⟨y575, hy575⟩ : ∃ y_ : List Int, y_ = (([] : List Int)) := ⟨_, rfl⟩
  replace H : (impl_first.l0 k y575 a0 0) = some r := by first | (rw [hy575]; with_reducible exact H) | (have H2_ := (Option.bind_some _ _).symm.trans H; rw [hy575]; with_reducible exact H2_) | (have H2_ := (Option.bind_some _ _).symm.trans H; with_reducible exact H2_) | with_reducible exact H | (rw [hy575]; exact H) | exact H
  have Ny575 := Aside0.mk hy575
  clear hy575
  have H' := Aside0.mk H
  clear H
  go_enter Try.func141, Try.ntmps141
  go_wp2_with (first | ((with_reducible refine gate_dst (N := 5) rfl ?_); refine Kd.R_lit (Kd.int .i64) _ 2 ?hg (N := 5) ?hd (xs := ([] : List Int)) (inner := []) (ok := fun _ => True) (okp := fun _ => True) ?hr ?hp (fun _ hk => hk) trivial (Below.refl _ _) (Nat.le_refl _) (by simp) ?_; (case hd => rfl); (case hg => rfl); (case hr => first | (go_simp; done) | (go_simp; rfl)); (case hp => exact (Reps.none _ _)); intro v576 w2 ho3 hb hg_ hnew_; clear hg_ hnew_; (first | rw [← Ny575.out] at ho3 | (simp only [Int.reduceToNat] at ho3; rw [← Ny575.out] at ho3)); have n0_ := Aside0.mk (Kd.R_lower ho3 (below_size (by repeat (first | (with_reducible first | exact HB.out | apply below_alloc | apply pw_below_drewN | apply below_drew1) | exact HB.out)))); have n1_ := Aside0.mk (below_step (by repeat (first | (with_reducible first | exact HB.out | apply below_alloc | apply pw_below_drewN | apply below_drew1) | exact HB.out)) hb); clear HB; have HO577 := n0_; have HB := n1_; clear n0_ n1_; clear hb ho3))
  go_loopg [3, 7] k (fun kq v3 v7 w' => ∃ (x3_1 : List Int) (x7_1 : Int), v7 = .int .i64 x7_1 ∧ Aside0 (impl_first.l0 kq x3_1 a0 x7_1 = some r) ∧ Aside0 (kq ≤ k) ∧ Aside0 (Kd.R (Kd.int .i64) 2 w' w.heap.size (fun _ => True) v3 x3_1) ∧ Aside0 (Below w.heap.size w w'))
  case atStart => exact ⟨(y575), (0), (by first | rfl | (simp; done) | (simp [*]; done)), H', ⟨Nat.le_refl _⟩, ⟨by (with_reducible repeat (first | apply Kd.R_alloc | apply Kd.R_drewN | apply Kd.R_drew)); exact HO577.out⟩, ⟨by repeat (first | (with_reducible first | exact HB.out | apply below_alloc | apply pw_below_drewN | apply below_drew1) | exact HB.out)⟩⟩
  case round =>
    clear H'
    try clear c1
    try clear p2
    obtain ⟨x3_1, x7_1, rfl, HA, HK1, HO_3, HB⟩ := hrel
    cases gk with
    | zero => exact absurd HA.out (by simp [impl_first.l0])
    | succ k1 =>
      have H := HA.out
      clear HA
      simp only [impl_first.l0] at H
      by_cases c4 : x7_1 < a0
      · rw [if_pos c4] at H
        have c4b0 : decide (x7_1 < a0) = true := decide_eq_true c4
        clear c4
        by_cases c5 : x3_1.length < 17592186044416
        · rw [if_pos c5] at H
          have LMc5 := Aside0.mk c5
          clear c5
          obtain ⟨y578, hy578⟩ : ∃ y_ : List Int, y_ = (x3_1 ++ [x7_1]) := ⟨_, rfl⟩
          replace H : (impl_first.l0 k1 y578 a0 (wrap64 (x7_1 + 1))) = some r := by first | (rw [hy578]; with_reducible exact H) | (have H2_ := (Option.bind_some _ _).symm.trans H; rw [hy578]; with_reducible exact H2_) | (have H2_ := (Option.bind_some _ _).symm.trans H; with_reducible exact H2_) | with_reducible exact H | (rw [hy578]; exact H) | exact H
          have Ny578 := Aside0.mk hy578
          clear hy578
          have H' := Aside0.mk H
          clear H
          go_wp2_with (first | ((with_reducible refine gate_builtin (b := .append) (xs := #[.tmp 10, .tmp 12]) rfl ?_); at_builtin; refine Kd.R_append (Kd.int .i64) (w0 := w) w.heap.size rfl (.tmp 10) (.tmp 12) 54 2 (.int .i64 0) 8 rfl Try.underlying54 info2 rfl (by decide) (by omega) u3 x3_1 x7_1 [.int .i64 x7_1] (fun _ => True) (fun _ => False) rfl rfl ?aP (fun _ hk => hk.elim) ?aF ?aO ?aB ?aS ?aL ?_; (case aP => exact rfl); (case aB => exact (by repeat (first | (with_reducible first | exact HB.out | apply below_alloc | apply pw_below_drewN | apply below_drew1) | exact HB.out))); (case aF => exact (fun _ _ => trivial)); (case aO => exact (by (with_reducible repeat (first | apply Kd.R_alloc | apply Kd.R_drewN | apply Kd.R_drew)); exact HO_3.out)); (case aS => exact (below_size (by repeat (first | (with_reducible first | exact HB.out | apply below_alloc | apply pw_below_drewN | apply below_drew1) | exact HB.out)))); (case aL => have := LMc5.out; omega); intro v579 w6 ho hb hg hat; rw [← Ny578.out] at ho; have n0_ := Aside0.mk (hb); have n1_ := Aside0.mk (ho); clear HB; clear HO_3; have HB := n0_; have HO580 := n1_; clear n0_ n1_; clear ho hb hg hat))
          go_roundg k1
          case measure => have := HK1.out; omega
          case rel => exact ⟨(y578), (wrap64 (x7_1 + 1)), (by first | rfl | (simp; done) | (simp [*]; done)), H', ⟨by have := HK1.out; omega⟩, ⟨by (with_reducible repeat (first | apply Kd.R_alloc | apply Kd.R_drewN | apply Kd.R_drew)); exact HO580.out⟩, ⟨by repeat (first | (with_reducible first | exact HB.out | apply below_alloc | apply pw_below_drewN | apply below_drew1) | exact HB.out)⟩⟩
        · rw [if_neg c5] at H
          exact absurd H (by simp)
      · rw [if_neg c4] at H
        have c4b0 : decide (x7_1 < a0) = false := decide_eq_false c4
        clear c4
        obtain rfl := Option.some.inj H
        go_wp2
        go_ret
        exact ⟨_, by first | rfl | (simp [errW_none, errW_some] <;> rfl) | (simp [*, errW_none, errW_some] <;> rfl), by (with_reducible repeat (first | apply Kd.R_alloc | apply Kd.R_drewN | apply Kd.R_drew)); exact HO_3.out, by repeat (first | (with_reducible first | exact HB.out | apply below_alloc | apply pw_below_drewN | apply below_drew1) | exact HB.out)⟩

end Go.Proofs.Ytafkdkiagmbeaaa.Q
end

section
/- A contract of one Go function: what it returns for its arguments; printed by the kit's print program or written by hand. -/
namespace Go.Proofs.Ytafkdkiagmbeaaa.Q
open Go.RowKit Go.Proofs.YtafkdkiagmbeaaaW.PrintWords Go.Proofs.YtafkdkiagmbeaaaW.PrintLast Go.Proofs.YtafkdkiagmbeaaaW.PrintMore
attribute [local go_sem] max2_int min2_int max_two min_two max_three min_three max_four min_four   -- for this text's walks alone
set_option linter.unusedVariables false
set_option linter.unusedSimpArgs false

/-! #### pure: Base -/
theorem l00In_eq (a b c : Int) : spec_l00In.f a b c = some (decide (b ≤ a ∧ a ≤ c)) := by
  unfold spec_l00In.f
  by_cases h : a ≥ b
  · rw [if_pos h]; congr 1; rw [decide_eq_decide]; omega
  · rw [if_neg h]; congr 1; symm; rw [decide_eq_false_iff_not]; omega
theorem small5 {n : Int} (h0 : 0 ≤ n) (h5 : n ≤ 5) : n = 0 ∨ n = 1 ∨ n = 2 ∨ n = 3 ∨ n = 4 ∨ n = 5 := by omega

end Go.Proofs.Ytafkdkiagmbeaaa.Q
end

section
/- A contract of one Go function: what it returns for its arguments; printed by the kit's print program or written by hand. -/
namespace Go.Proofs.Ytafkdkiagmbeaaa.Q
open Go.RowKit Go.Proofs.YtafkdkiagmbeaaaW.PrintWords Go.Proofs.YtafkdkiagmbeaaaW.PrintLast Go.Proofs.YtafkdkiagmbeaaaW.PrintMore
attribute [local go_sem] max2_int min2_int max_two min_two max_three min_three max_four min_four   -- for this text's walks alone
set_option linter.unusedVariables false
set_option linter.unusedSimpArgs false

/-! #### pure: First -/
def firstI : Nat → List Int
  | 0 => []
  | n + 1 => firstI n ++ [(n : Int)]
theorem firstS_eq (n : Int) (h0 : 0 ≤ n) (h5 : n ≤ 5) (k : Nat) (hk : 40 ≤ k) : spec_l01First.f k n = some (firstI n.toNat) := by
  obtain ⟨k, rfl⟩ : ∃ m, k = m + 40 := ⟨k - 40, by omega⟩
  rcases small5 h0 h5 with rfl | rfl | rfl | rfl | rfl | rfl <;> kernel_rfl

end Go.Proofs.Ytafkdkiagmbeaaa.Q
end

section
/- A contract of one Go function: what it returns for its arguments; printed by the kit's print program or written by hand. -/
namespace Go.Proofs.Ytafkdkiagmbeaaa.Q
open Go.RowKit Go.Proofs.YtafkdkiagmbeaaaW.PrintWords Go.Proofs.YtafkdkiagmbeaaaW.PrintLast Go.Proofs.YtafkdkiagmbeaaaW.PrintMore
attribute [local go_sem] max2_int min2_int max_two min_two max_three min_three max_four min_four   -- for this text's walks alone
set_option linter.unusedVariables false
set_option linter.unusedSimpArgs false

/-! #### pure: FirstI -/
theorem first_eq (n : Int) (h0 : 0 ≤ n) (h5 : n ≤ 5) (k : Nat) (hk : 40 ≤ k) : impl_first.f k n = some (firstI n.toNat) := by
  obtain ⟨k, rfl⟩ : ∃ m, k = m + 40 := ⟨k - 40, by omega⟩
  rcases small5 h0 h5 with rfl | rfl | rfl | rfl | rfl | rfl <;> kernel_rfl

end Go.Proofs.Ytafkdkiagmbeaaa.Q
end

section
/- A contract of one Go function: what it returns for its arguments; printed by the kit's print program or written by hand. -/
namespace Go.Proofs.Ytafkdkiagmbeaaa.Q
open Go.RowKit Go.Proofs.YtafkdkiagmbeaaaW.PrintWords Go.Proofs.YtafkdkiagmbeaaaW.PrintLast Go.Proofs.YtafkdkiagmbeaaaW.PrintMore
attribute [local go_sem] max2_int min2_int max_two min_two max_three min_three max_four min_four   -- for this text's walks alone
set_option linter.unusedVariables false
set_option linter.unusedSimpArgs false

/-! #### total: 141 -/
def impl_firstT.f (a0 : Int) : Option (List Int) := if 0 ≤ a0 ∧ a0 ≤ 5 then some (firstI a0.toNat) else none
theorem impl_firstT.calls (a0 : Int) (r : List Int) (w : World) (h : impl_firstT.f a0 = some r) :
    Calls Try.prog 141 #[.int .i64 a0] w fun e w' => ∃ v0_ : Value, e = .returned (v0_) ∧ Kd.R (Kd.int .i64) 2 w' w.heap.size (fun _ => True) v0_ r ∧ Below w.heap.size w w' := by
  unfold impl_firstT.f at h
  by_cases ok : 0 ≤ a0 ∧ a0 ≤ 5
  · rw [if_pos ok] at h
    exact impl_first.calls 40 a0 r w (by rw [← h]; exact first_eq a0 ok.1 ok.2 40 (by omega))
  · rw [if_neg ok] at h; cases h
theorem impl_firstT.eq {n : Int} (h0 : 0 ≤ n) (h5 : n ≤ 5) : impl_firstT.f n = some (firstI n.toNat) := if_pos ⟨h0, h5⟩

end Go.Proofs.Ytafkdkiagmbeaaa.Q
end

section
/- A contract of one Go function: what it returns for its arguments; printed by the kit's print program or written by hand. -/
namespace Go.Proofs.Ytafkdkiagmbeaaa.Q
open Go.RowKit Go.Proofs.YtafkdkiagmbeaaaW.PrintWords Go.Proofs.YtafkdkiagmbeaaaW.PrintLast Go.Proofs.YtafkdkiagmbeaaaW.PrintMore
attribute [local go_sem] max2_int min2_int max_two min_two max_three min_three max_four min_four   -- for this text's walks alone
set_option linter.unusedVariables false
set_option linter.unusedSimpArgs false

/-! ### impl_Graph_orders: function 123 -/
theorem firstI_length : ∀ n, (firstI n).length = n
  | 0 => rfl
  | n + 1 => by rw [firstI, List.length_append, firstI_length n]; rfl
set_option maxHeartbeats 16000000 in
set_option maxRecDepth 100000 in
theorem impl_Graph_orders.state {σ : Type} (cb : List Int → σ → Option (Bool × σ)) (I : σ → World → Prop) (M : Nat → Prop) (G1 : Nat) (lb1 : Array Value) (eg1 : EnterF Try.prog G1) (W0 : World) (hM : ∀ k, M k → k < W0.heap.size)
    (hI : Aside0 (∀ a W W', I a W → Below W.heap.size W W' → I a W'))
    (hcb : Aside0 (∀ (l : List Int) (a : σ) (b : Bool) (a' : σ) (A : Option Addr) (c : Nat) (W : World), I a W → Kd.C (Kd.int .i64) W A l.length l → l.length ≤ c → cb l a = some (b, a') → But M W0 W → Calls Try.prog G1 (#[.slice A l.length c] ++ lb1) W fun e w' => e = .returned (.bool b) ∧ I a' w' ∧ But M W w'))
    (a0_0 a0_1 a1 : Int) (a : σ) (b : Bool) (a' : σ) (w : World) (hb0 : 0 ≤ a1 ∧ a1 ≤ a0_0 ∧ a0_0 ≤ 5) (hi : I a w) (hB0 : But M W0 w) (h : lstd cb a0_0.toNat (a0_0 - a1).toNat (firstI a1.toNat) a = some (b, a')) :
    Calls Try.prog 123 #[.agg #[.int .i64 a0_0, .int .u32 a0_1], .int .i64 a1, .func (.func G1) #[] lb1] w fun e w' => e = .returned (.bool b) ∧ I a' w' ∧ But M w w' := by
  have hu46 := Try.underlying46
  have HB := Aside0.mk (Below.refl w.heap.size w)
  have HI := Aside0.mk hi
  have HB0 := Aside0.mk hB0
  have H := Aside0.mk h
  have HM := Aside0.mk (show ∀ k, M k → k < w.heap.size from fun k hk => Nat.lt_of_lt_of_le (hM k hk) hB0.size)
  have A2 : Aside0 (impl_firstT.f a1 = some (firstI a1.toNat)) := ⟨impl_firstT.eq hb0.1 (by omega)⟩
  have HN := Aside0.mk hb0
  clear hi hB0 h hb0
  go_enter Try.func123, Try.ntmps123
  try go_wp2_with ((with_reducible refine gate_dst (N := 3) rfl ?_); refine box_event ?hg (N := 3) ?hd (cs := #[.int .i64 a0_0, .int .u32 a0_1]) (t := 46) ?hr ?_; (case hd => rfl); (case hg => rfl); (case hr => first | (go_simp; done) | (go_simp; rfl)); intro gb1 hg w4 hbox hb; have n0_ := Aside0.mk (below_step (by repeat (first | (with_reducible first | exact HB.out | apply below_alloc | apply pw_below_drewN | apply below_drew1) | exact HB.out)) hb); have n1_ := Aside0.mk (hbox); have n2_ := Aside0.mk ((by rw [hg]; exact (below_size (by repeat (first | (with_reducible first | exact HB.out | apply below_alloc | apply pw_below_drewN | apply below_drew1) | exact HB.out))) : w.heap.size ≤ gb1)); clear HB; have HB := n0_; have BK1 := n1_; have GW1 := n2_; clear n0_ n1_ n2_; clear hb hbox hg)
  have n1_ := Aside0.mk (blk_drew BK1.out)
  have n2_ := Aside0.mk (below_drew1 HB.out)
  clear BK1
  clear HB
  have BK1 := n1_
  have HB := n2_
  clear n1_ n2_
  refine start_ (n := 9) (S := fun w' => w'.cell? ⟨gb1, 0, none⟩ = some (.int .i64 a0_0) ∧ w'.cell? ⟨gb1, 1, none⟩ = some (.int .u32 a0_1)) (ds := []) #[false, false, false, false, false, false, false, false, false] (by kernel_rfl) rfl rfl ⟨(blk_cell BK1.out 0).trans rfl, (blk_cell BK1.out 1).trans rfl⟩ (fun hHeld => ?_)
  generalize w4.drew = w6 at BK1 HB hHeld ⊢
  refine pure_ (i := 0) (N := some 7) (v := ?_) (a' := ?_) #[true, false, false, false, false, false, false, false, false] rfl rfl (by kernel_rfl) (fun _ _ _ h => h) (Or.inl ⟨by rfl, ?_⟩) ?_ ?_
  rotate_left
  · intro w'
    go_simp
    with_reducible rfl
  rotate_left
  · simp only [Act.put, List.setIfInBounds_toArray, List.set_cons_zero, List.set_cons_succ, i64_w, i32_w]
    rfl
  refine pure_ (i := 2) (N := some 9) (v := ?_) (a' := ?_) #[true, false, true, false, false, false, false, false, false] rfl rfl (by kernel_rfl) (fun _ _ _ h => h) (Or.inl ⟨by rfl, ?_⟩) ?_ ?_
  rotate_left
  · intro w'
    go_simp
    with_reducible rfl
  rotate_left
  · simp only [Act.put, List.setIfInBounds_toArray, List.set_cons_zero, List.set_cons_succ, i64_w, i32_w]
    rfl
  refine pure_ (i := 4) (N := some 11) (v := ?_) (a' := ?_) #[true, false, true, false, true, false, false, false, false] rfl rfl (by kernel_rfl) (fun _ _ _ h => h) (Or.inl ⟨by rfl, ?_⟩) ?_ ?_
  rotate_left
  · intro w'
    go_simp
    with_reducible rfl
  rotate_left
  · simp only [Act.put, List.setIfInBounds_toArray, List.set_cons_zero, List.set_cons_succ, i64_w, i32_w]
    rfl
  refine pure_ (i := 6) (N := some 13) (v := ?_) (a' := ?_) #[true, false, true, false, true, false, true, false, false] rfl rfl (by kernel_rfl) (fun _ _ _ h => h) (Or.inl ⟨by rfl, ?_⟩) ?_ ?_
  rotate_left
  · intro w'
    go_simp
    with_reducible rfl
  rotate_left
  · simp only [Act.put, List.setIfInBounds_toArray, List.set_cons_zero, List.set_cons_succ, i64_w, i32_w]
    rfl
  refine take_ (i := 1) (N := some 8) (v := ?_) (a' := ?_) #[true, true, true, false, true, false, true, false, false] rfl rfl (by kernel_rfl) (fun _ _ _ h => h) (Or.inl ⟨by rfl, ?_⟩) hHeld ?_ ?_
  rotate_left
  · rintro w' ⟨s0, s1⟩
    go_simp
    with_reducible rfl
  rotate_left
  · simp only [Act.put, List.setIfInBounds_toArray, List.set_cons_zero, List.set_cons_succ, i64_w, i32_w]
    rfl
  refine take_ (i := 3) (N := some 10) (v := ?_) (a' := ?_) #[true, true, true, true, true, false, true, false, false] rfl rfl (by kernel_rfl) (fun _ _ _ h => h) (Or.inl ⟨by rfl, ?_⟩) hHeld ?_ ?_
  rotate_left
  · rintro w' ⟨s0, s1⟩
    go_simp
    with_reducible rfl
  rotate_left
  · simp only [Act.put, List.setIfInBounds_toArray, List.set_cons_zero, List.set_cons_succ, i64_w, i32_w]
    rfl
  refine one_ (i := 5) (N := some 12) #[true, true, true, true, true, true, true, false, false] rfl rfl (by kernel_rfl) (by decide) (fun K hK => ?_)
  refine goes_ Try.func141 (by kernel_rfl) rfl #[.int .i64 a1] (by rfl) rfl rfl (by (try simp only [List.map_toArray, List.map_cons, List.map_nil]); first | done | rfl) ?_
  with_reducible refine (impl_firstT.calls a1 (firstI a1.toNat) _ A2.out).mono ?_
  rintro e w7 ⟨v1, rfl, ho0, hb⟩
  refine ⟨_, rfl, ?_⟩
  have n0_ := Aside0.mk (Kd.R_lower ho0 (below_size HB.out))
  have n1_ := Aside0.mk (blk_below (g := gb1) (o := .cells #[.int .i64 a0_0, .int .u32 a0_1] 46 (0, 0)) BK1.out hb)
  have n3_ := Aside0.mk (below_step HB.out hb)
  clear BK1
  clear HB
  have HO1 := n0_
  have BK1 := n1_
  have HB := n3_
  clear n0_ n1_ n3_ hb ho0
  obtain ⟨Ao8, co8, eo8⟩ := Kd.R_slice HO1.out
  subst eo8
  refine hK.out _ _ ⟨(blk_cell BK1.out 0).trans rfl, (blk_cell BK1.out 1).trans rfl⟩ (fun hHeld => ?_)
  clear hK K
  refine norm_ (a' := ?_) ?_ ?_
  rotate_left
  · show Act.put _ (some 12) _ = _
    simp only [Act.put, List.setIfInBounds_toArray, List.set_cons_zero, List.set_cons_succ, i64_w, i32_w]
    rfl
  have HG : Aside0 (∀ ad, Ao8 = some ad → ¬ M ad.block) := ⟨fun ad e hm => by
    cases e
    have h1 := HM.out _ hm
    have h2 := Kd.R_base HO1.out _ rfl
    omega⟩
  refine one_ (i := 7) (N := some 14) #[true, true, true, true, true, true, true, true, false] rfl rfl (by kernel_rfl) (by decide) (fun K hK => ?_)
  refine goes_ Try.func117 (by kernel_rfl) rfl #[.int .i64 a0_0, .int .i64 a0_0, .slice Ao8 (firstI a1.toNat).length co8, .func (.func G1) #[] lb1] (by rfl) rfl rfl (by (try simp only [List.map_toArray, List.map_cons, List.map_nil]); first | done | rfl) ?_
  have HCall := impl_listed.state cb I M G1 lb1 eg1 W0 hM hI hcb (a0_0 - a1).toNat a0_0 (firstI a1.toNat) Ao8 co8 a b a' w7 (by have := HN.out; omega) (by rw [firstI_length]; have := HN.out; omega) (hI.out _ _ _ HI.out HB.out) (Kd.R_reads' HO1.out).2.2 (Kd.R_reads' HO1.out).2.1 HG.out (HB0.out.trans (But.of_below HB.out)) H.out
  rw [show (((firstI a1.toNat).length + (a0_0 - a1).toNat : Nat) : Int) = a0_0 from by rw [firstI_length]; have := HN.out; omega] at HCall
  refine HCall.mono ?_
  rintro e w9 ⟨rfl, hi2, hb2⟩
  clear HCall
  refine ⟨_, rfl, ?_⟩
  have n1_ := Aside0.mk (hb2.blk BK1.out (fun hm => by have h1 := HM.out _ hm; have h2 := GW1.out; omega))
  have HB2 := Aside0.mk ((But.of_below (M := M) HB.out).trans hb2)
  clear BK1 HB HO1
  have BK1 := n1_
  clear n1_
  refine hK.out _ _ ⟨(blk_cell BK1.out 0).trans rfl, (blk_cell BK1.out 1).trans rfl⟩ (fun hHeld => ?_)
  clear hK K
  refine norm_ (a' := ?_) ?_ ?_
  rotate_left
  · show Act.put _ (some 14) _ = _
    simp only [Act.put, List.setIfInBounds_toArray, List.set_cons_zero, List.set_cons_succ, i64_w, i32_w]
    rfl
  refine pure_ (i := 8) (N := some 6) (v := ?_) (a' := ?_) #[true, true, true, true, true, true, true, true, true] rfl rfl (by kernel_rfl) (fun _ _ _ h => h) (Or.inl ⟨by rfl, ?_⟩) ?_ ?_
  rotate_left
  · intro w'
    go_simp
    with_reducible rfl
  rotate_left
  · simp only [Act.put, List.setIfInBounds_toArray, List.set_cons_zero, List.set_cons_succ, i64_w, i32_w]
    rfl
  refine done_ (by kernel_rfl) ?_
  try go_wp2
  go_ret
  exact ⟨rfl, hi2, HB2.out⟩
def impl_Graph_orders.f (cb1 : List Int → Option Bool) (a0_0 a0_1 a1 : Int) : Option Bool :=
  if 0 ≤ a1 ∧ a1 ≤ a0_0 ∧ a0_0 ≤ 5 then (lstd (fun l (_ : Unit) => (cb1 l).map fun b => (b, ())) a0_0.toNat (a0_0 - a1).toNat (firstI a1.toNat) ()).map Prod.fst else none
theorem impl_Graph_orders.calls (cb1 : List Int → Option Bool) (G1 : Nat) (lb1 : Array Value) (eg1 : EnterF Try.prog G1) (W0 : World)
    (hcb1 : Aside0 (∀ (A0 : Option Addr) (c0 : Nat) (l0 : List Int) (r : Bool) (W : World), Kd.C (Kd.int .i64) W A0 l0.length l0 → l0.length ≤ c0 → cb1 l0 = some r → Below W0.heap.size W0 W → Calls Try.prog G1 (#[.slice A0 l0.length c0] ++ lb1) W fun e w' => e = .returned (.bool r) ∧ Below W.heap.size W w'))
    (a0_0 a0_1 a1 : Int) (r : Bool) (w : World) (h : impl_Graph_orders.f cb1 a0_0 a0_1 a1 = some r) (hW0 : Aside0 (Below W0.heap.size W0 w)) :
    Calls Try.prog 123 #[.agg #[.int .i64 a0_0, .int .u32 a0_1], .int .i64 a1, .func (.func G1) #[] lb1] w fun e w' => e = .returned (.bool r) ∧ Below w.heap.size w w' := by
  unfold impl_Graph_orders.f at h
  by_cases ok : 0 ≤ a1 ∧ a1 ≤ a0_0 ∧ a0_0 ≤ 5
  · rw [if_pos ok] at h
    obtain ⟨⟨b, u⟩, h1, h2⟩ := Option.map_eq_some_iff.1 h
    obtain rfl : b = r := h2
    have := impl_Graph_orders.state (fun l (_ : Unit) => (cb1 l).map fun b => (b, ())) (fun _ _ => True) (fun _ => False) G1 lb1 eg1 W0 (fun _ hk => hk.elim) ⟨fun _ _ _ _ _ => trivial⟩
      ⟨fun l a b a' A c W _ hC hc hcb hB => by
        obtain ⟨b2, e1, e2⟩ := Option.map_eq_some_iff.1 hcb
        obtain rfl : b2 = b := by injection e2
        exact (hcb1.out A c l b2 W hC hc e1 (hB.below fun _ _ hk => hk)).mono fun e w' h => ⟨h.1, trivial, But.of_below h.2⟩⟩
      a0_0 a0_1 a1 () b u w ok trivial (But.of_below hW0.out) h1
    exact this.mono fun e w' h => ⟨h.1, h.2.2.below fun _ _ hk => hk⟩
  · rw [if_neg ok] at h; cases h

end Go.Proofs.Ytafkdkiagmbeaaa.Q
end
