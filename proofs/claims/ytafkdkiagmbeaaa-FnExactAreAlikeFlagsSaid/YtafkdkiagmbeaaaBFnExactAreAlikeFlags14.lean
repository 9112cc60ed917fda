/- Contracts of Go functions and plain lemmas over what they compute; printed by the kit's print program or written by hand, joined. -/
import Derived.Test.YtafkdkiagmbeaaaBFnExactAreAlikeFlags1
import Derived.Test.YtafkdkiagmbeaaaBFnExactAreAlikeFlags7
import Derived.Test.YtafkdkiagmbeaaaBFnExactAreAlikeFlags8
import Derived.Test.YtafkdkiagmbeaaaBFnExactAreAlikeFlags5
import Derived.Test.YtafkdkiagmbeaaaBFnExactAreAlikeFlags10
section
/- A contract of one Go function: what it returns for its arguments; printed by the kit's print program or written by hand. -/
namespace Go.Proofs.Ytafkdkiagmbeaaa.Q
open Go.RowKit Go.Proofs.YtafkdkiagmbeaaaW.PrintWords Go.Proofs.YtafkdkiagmbeaaaW.PrintLast Go.Proofs.YtafkdkiagmbeaaaW.PrintMore
attribute [local go_sem] max2_int min2_int max_two min_two max_three min_three max_four min_four   -- for this text's walks alone
set_option linter.unusedVariables false
set_option linter.unusedSimpArgs false

/-! ### impl_different: function 77 -/
/-- All numbers of the list lie in 0 .. m and none occurs twice. -/
def allDiff (m : Int) (l : List Int) : Prop := l.Nodup ∧ ∀ x ∈ l, 0 ≤ x ∧ x ≤ m
instance (m : Int) (l : List Int) : Decidable (allDiff m l) := by unfold allDiff; infer_instance
def impl_different.f (l0 : List Int) (a1 : Int) : Option Bool := some (decide (allDiff (wrap64 (a1 - 1)) l0))
theorem allDiff_take {m : Int} {l : List Int} {j : Nat} (hj : j < l.length) : allDiff m (l.take (j + 1)) ↔ allDiff m (l.take j) ∧ (0 ≤ l[j] ∧ l[j] ≤ m) ∧ l[j] ∉ l.take j := by
  rw [List.take_succ_eq_append_getElem hj]
  unfold allDiff
  rw [List.nodup_append]
  constructor
  · rintro ⟨⟨h1, _, h3⟩, h2⟩
    exact ⟨⟨h1, fun x hx => h2 x (List.mem_append_left _ hx)⟩, h2 _ (List.mem_append_right _ (List.mem_singleton.2 rfl)), fun h => h3 _ h _ (List.mem_singleton.2 rfl) rfl⟩
  · rintro ⟨⟨h1, h2⟩, h3, h4⟩
    refine ⟨⟨h1, by simp, fun a ha b hb => ?_⟩, fun x hx => ?_⟩
    · simp at hb; subst hb; exact fun h => h4 (h ▸ ha)
    · rcases List.mem_append.1 hx with hx | hx
      · exact h2 x hx
      · simp at hx; subst hx; exact h3
theorem allDiff_mono {m : Int} {l : List Int} {j : Nat} (h : allDiff m l) : allDiff m (l.take j) :=
  ⟨h.1.sublist (List.take_sublist _ _), fun x hx => h.2 x (List.mem_of_mem_take hx)⟩
theorem impl_different.law (w : World) : Go.Maps.Keyed Try.prog 2 := Go.Maps.int_keyed Try.underlying2
set_option maxHeartbeats 8000000 in
set_option maxRecDepth 100000 in
theorem impl_different.calls (A0 : Option Addr) (c0 : Nat) (l0 : List Int) (a1 : Int) (r : Bool) (w : World) (hr0 : Kd.C (Kd.int .i64) w A0 l0.length l0) (hc0 : l0.length ≤ c0) (h : impl_different.f l0 a1 = some r) :
    Calls Try.prog 77 #[.slice A0 l0.length c0, .int .i64 a1] w fun e w' => e = .returned (.bool r) ∧ Below w.heap.size w w' := by
  have HR0 := Aside0.mk hr0
  have HC0 := Aside0.mk hc0
  have hmax_ : Aside0 (l0.length ≤ 9223372036854775807) := ⟨hr0.2.1⟩
  clear hr0 hc0
  have HB := Aside0.mk (Below.refl w.heap.size w)
  have hmm := @run_makeMap Try.prog
  go_enter Try.func77, Try.ntmps77
  go_wp2
  have hr_ : Aside0 (r = decide (allDiff (wrap64 (a1 - 1)) l0)) := ⟨(Option.some.inj h).symm⟩
  clear h
  go_loopg [11] (l0.length + 1) (fun kq v11 w' => ∃ j : Nat, v11 = .int .i64 j ∧ Aside0 (kq + j = l0.length + 1) ∧ Aside0 (j ≤ l0.length) ∧ Aside0 (allDiff (wrap64 (a1 - 1)) (l0.take j)) ∧ Aside0 (Seen Try.prog 2 4 w' w.heap.size j (l0.take j)) ∧ Aside0 (Below w.heap.size w w'))
  case atStart => exact ⟨0, rfl, ⟨by omega⟩, ⟨by omega⟩, ⟨by simp [allDiff]⟩, ⟨Seen.made _ _ _ _⟩, ⟨below_alloc (Below.refl _ _) _⟩⟩
  case round =>
    obtain ⟨j, rfl, HK1, HJ, HD, HS, HB⟩ := hrel
    cases gk with
    | zero => exact absurd HK1.out (by have := HJ.out; omega)
    | succ k1 =>
      by_cases c : j < l0.length
      · have c0b : decide ((j : Int) < (l0.length : Int)) = true := decide_eq_true (by omega)
        have p1 : 0 ≤ (j : Int) := by omega
        have q1 : (j : Int) < (l0.length : Int) := by omega
        obtain ⟨ad, e1, hx⟩ := Kd.at_int HR0.out (j : Int) p1 q1
        cases e1
        have hrd : rd l0 (j : Int) = l0[j] := by unfold rd; rw [Int.toNat_natCast, List.getD_eq_getElem?_getD, List.getElem?_eq_getElem c]; rfl
        obtain ⟨x, hxn⟩ : ∃ x, x = rd l0 (j : Int) := ⟨_, rfl⟩
        rw [← hxn, Int.toNat_natCast] at hx
        replace hx := (HB.out.cell (World.block_lt_of_cell? w _ hx)).trans hx
        have Nx := Aside0.mk (hxn.trans hrd)
        clear hrd hxn
        replace p1 := eq_true p1
        replace q1 := eq_true q1
        by_cases ci : 0 ≤ x ∧ x ≤ wrap64 (a1 - 1)
        · have A5 : Aside0 (impl_in.f x 0 (wrap64 (a1 - 1)) = some true) := ⟨by unfold impl_in.f; rw [if_pos (by omega)]; simp [ci.2]⟩
          have hkey : Aside0 (keyOf Try.prog 2 (.int .i64 x) = some (.int .i64 x)) := ⟨Go.Maps.keyOf_int_mk Try.underlying2 (by
            have h2 : wrap64 (a1 - 1) ≤ 9223372036854775807 := by unfold wrap64; omega
            simp [Lit.wf, IntKind.min, IntKind.max, IntKind.bits, IntKind.signed]
            omega)⟩
          by_cases cs : x ∈ l0.take j
          · have cb : decide (x ∈ l0.take j) = true := decide_eq_true cs
            have hrf : r = false := by
              rw [hr_.out]; refine decide_eq_false fun h => ?_
              rw [Nx.out] at cs
              exact ((allDiff_take c).1 (allDiff_mono h)).2.2 cs
            clear hr_
            subst hrf
            clear cs
            have ci2 := Aside0.mk ci
            clear ci
            go_wp2_with (first
              | (go_at_call 112; (with_reducible refine (impl_in.calls x 0 (wrap64 (a1 - 1)) true _ A5.out).mono ?_); rintro e w' ⟨rfl, ⟨nd, rfl⟩⟩)
              | (at_lookup; refine wpList_seen _ (by rfl) _ _ 119 rfl 2 4 (Go.Maps.int_keyed Try.underlying2) Try.underlying119 Try.underlying4 (by kernel_rfl) w.heap.size j (l0.take j) rfl (HS.out.below rfl) x rfl hkey.out ?_))
            go_ret
            exact ⟨rfl, by repeat (first | exact HB.out | apply pw_below_drewN | apply below_drew1)⟩
          · have cb : decide (x ∈ l0.take j) = false := decide_eq_false cs
            have HD' : Aside0 (allDiff (wrap64 (a1 - 1)) (l0.take (j + 1))) := ⟨(allDiff_take c).2 ⟨HD.out, by rw [← Nx.out]; exact ⟨ci, cs⟩⟩⟩
            have hwj : Aside0 (wrap64 ((j : Int) + 1) = ((j + 1 : Nat) : Int)) := ⟨by have := hmax_.out; unfold wrap64; omega⟩
            have HT : Aside0 (l0.take (j + 1) = l0.take j ++ [x]) := ⟨by rw [List.take_succ_eq_append_getElem c, Nx.out]⟩
            clear cs
            have ci2 := Aside0.mk ci
            clear ci
            go_wp2_with (first
              | (go_at_call 112; (with_reducible refine (impl_in.calls x 0 (wrap64 (a1 - 1)) true _ A5.out).mono ?_); rintro e w' ⟨rfl, ⟨nd, rfl⟩⟩)
              | (at_lookup; refine wpList_seen _ (by rfl) _ _ 119 rfl 2 4 (Go.Maps.int_keyed Try.underlying2) Try.underlying119 Try.underlying4 (by kernel_rfl) w.heap.size j (l0.take j) rfl (HS.out.below rfl) x rfl hkey.out ?_)
              | (at_mapUpdate; refine wpList_see _ rfl _ _ _ 119 rfl 2 4 (Go.Maps.int_keyed Try.underlying2) Try.underlying119 Try.underlying4 w.heap.size j (l0.take j) rfl (HS.out.below rfl) (by unfold maxLen; have := hmax_.out; omega) x rfl rfl hkey.out (by first | exact True.intro | exact rfl | (simp [WideAt.IsKeyLit])) ?_; intro w1 HS1 hg1))
            go_roundg k1
            case measure => omega
            case rel => exact ⟨j + 1, by rw [hwj.out], ⟨by have := HK1.out; omega⟩, ⟨by omega⟩, HD', ⟨by rw [HT.out]; exact HS1⟩, ⟨pw_below_grown (pw_below_drewN HB.out _) _ (by have := HB.out.size; exact this) hg1 (fun k e => by injection e with e; omega)⟩⟩
        · have A5 : Aside0 (impl_in.f x 0 (wrap64 (a1 - 1)) = some false) := ⟨by unfold impl_in.f; split <;> simp <;> omega⟩
          have hrf : r = false := by
            rw [hr_.out]; refine decide_eq_false fun h => ci ?_
            rw [Nx.out]
            exact h.2 _ (List.getElem_mem c)
          clear hr_
          subst hrf
          clear ci
          go_wp2_with (go_at_call 112; (with_reducible refine (impl_in.calls x 0 (wrap64 (a1 - 1)) false _ A5.out).mono ?_); rintro e w' ⟨rfl, ⟨nd, rfl⟩⟩)
          go_ret
          exact ⟨rfl, by repeat (first | exact HB.out | apply pw_below_drewN | apply below_drew1)⟩
      · have c0b : decide ((j : Int) < (l0.length : Int)) = false := decide_eq_false (by omega)
        have hj : j = l0.length := by have := HJ.out; omega
        have hrf : r = true := by
          rw [hr_.out]; refine decide_eq_true ?_
          have := HD.out
          rwa [List.take_of_length_le (by omega)] at this
        clear hr_ hj
        subst hrf
        go_wp2
        go_ret
        exact ⟨rfl, by repeat (first | exact HB.out | apply pw_below_drewN | apply below_drew1)⟩

end Go.Proofs.Ytafkdkiagmbeaaa.Q
end

section
/- A contract of one Go function: what it returns for its arguments; printed by the kit's print program or written by hand. -/
namespace Go.Proofs.Ytafkdkiagmbeaaa.Q
open Go.RowKit Go.Proofs.YtafkdkiagmbeaaaW.PrintWords Go.Proofs.YtafkdkiagmbeaaaW.PrintLast Go.Proofs.YtafkdkiagmbeaaaW.PrintMore
attribute [local go_sem] max2_int min2_int max_two min_two max_three min_three max_four min_four   -- for this text's walks alone
set_option linter.unusedVariables false
set_option linter.unusedSimpArgs false

/-! #### pure: Leaves -/
def leavesIn (g : List Int → List (List Int)) (l : List Int) : Nat → Nat → List (List Int)
  | 0, _ => []
  | d + 1, i => if (i : Int) ∈ l then leavesIn g l d (i + 1) else g (l ++ [(i : Int)]) ++ leavesIn g l d (i + 1)
/-- All lists of different numbers below n that go on from l by r places, in order. -/
def leaves (n : Nat) : Nat → List Int → List (List Int)
  | 0, l => [l]
  | r + 1, l => leavesIn (leaves n r) l n 0
def runCb {σ : Type} (cb : List Int → σ → Option (Bool × σ)) : List (List Int) → σ → Option (Bool × σ)
  | [], a => some (false, a)
  | l :: ls, a => (cb l a).bind fun p => if p.1 = true then some (true, p.2) else runCb cb ls p.2
theorem runCb_append {σ : Type} (cb : List Int → σ → Option (Bool × σ)) (y : List (List Int)) : ∀ (x : List (List Int)) (a : σ), runCb cb (x ++ y) a = (runCb cb x a).bind fun p => if p.1 = true then some (true, p.2) else runCb cb y p.2
  | [], a => rfl
  | l :: ls, a => by
    simp only [List.cons_append, runCb]
    cases h : cb l a with
    | none => rfl
    | some p =>
      simp only [Option.bind_some]
      by_cases hp : p.1 = true
      · rw [if_pos hp, if_pos hp]; rfl
      · rw [if_neg hp, if_neg hp]; exact runCb_append cb y ls p.2
theorem lstdIn_eq {σ : Type} (cb : List Int → σ → Option (Bool × σ)) (f : List Int → σ → Option (Bool × σ)) (g : List Int → List (List Int)) (hf : ∀ l a, f l a = runCb cb (g l) a) (l : List Int) : ∀ (d i : Nat) (a : σ), lstdIn f l d i a = runCb cb (leavesIn g l d i) a
  | 0, _, _ => rfl
  | d + 1, i, a => by
    rw [lstdIn, leavesIn]
    by_cases h : (i : Int) ∈ l
    · rw [if_pos h, if_pos h]; exact lstdIn_eq cb f g hf l d (i + 1) a
    · rw [if_neg h, if_neg h, runCb_append, hf]
      congr 1
      funext p
      by_cases hp : p.1 = true
      · rw [if_pos hp, if_pos hp]
      · rw [if_neg hp, if_neg hp]; exact lstdIn_eq cb f g hf l d (i + 1) p.2
theorem lstd_eq {σ : Type} (cb : List Int → σ → Option (Bool × σ)) (n : Nat) : ∀ (r : Nat) (l : List Int) (a : σ), lstd cb n r l a = runCb cb (leaves n r l) a
  | 0, l, a => by
    simp only [lstd, leaves, runCb]
    cases cb l a with
    | none => rfl
    | some p =>
      obtain ⟨b, a'⟩ := p
      cases b <;> rfl
  | r + 1, l, a => by
    rw [lstd, leaves]
    exact lstdIn_eq cb _ _ (fun l a => lstd_eq cb n r l a) l n 0 a
/-- A callback that only looks. -/
theorem runCb_any (cb : List Int → Option Bool) (p : List Int → Bool) : ∀ (L : List (List Int)), (∀ l ∈ L, cb l = some (p l)) → runCb (fun l (_ : Unit) => (cb l).map fun b => (b, ())) L () = some (L.any p, ())
  | [], _ => rfl
  | l :: ls, h => by
    simp only [runCb, h l (List.mem_cons_self), Option.map_some, Option.bind_some, List.any_cons]
    cases hp : p l
    · simp only [Bool.false_eq_true, if_false, Bool.false_or]
      exact runCb_any cb p ls fun x hx => h x (List.mem_cons_of_mem _ hx)
    · simp
/-- A callback that never says enough, and reckons on. -/
theorem runCb_fold {σ : Type} (cb : List Int → σ → Option (Bool × σ)) (g : σ → List Int → σ) : ∀ (L : List (List Int)) (a : σ), (∀ l ∈ L, ∀ a, cb l a = some (false, g a l)) → runCb cb L a = some (false, L.foldl g a)
  | [], _, _ => rfl
  | l :: ls, a, h => by
    simp only [runCb, h l (List.mem_cons_self) a, Option.bind_some, Bool.false_eq_true, if_false, List.foldl_cons]
    exact runCb_fold cb g ls _ fun x hx => h x (List.mem_cons_of_mem _ hx)

end Go.Proofs.Ytafkdkiagmbeaaa.Q
end

section
/- A contract of one Go function: what it returns for its arguments; printed by the kit's print program or written by hand. -/
namespace Go.Proofs.Ytafkdkiagmbeaaa.Q
open Go.RowKit Go.Proofs.YtafkdkiagmbeaaaW.PrintWords Go.Proofs.YtafkdkiagmbeaaaW.PrintLast Go.Proofs.YtafkdkiagmbeaaaW.PrintMore
attribute [local go_sem] max2_int min2_int max_two min_two max_three min_three max_four min_four   -- for this text's walks alone
set_option linter.unusedVariables false
set_option linter.unusedSimpArgs false

/-! #### pure: FlagOrders -/
def shiftL (s : Nat) (own : List Int) : List Int := firstI s ++ own.map fun x => (s : Int) + x
theorem leaves_shift : ∀ n, n < 6 → ∀ s, s < n + 1 → leaves n (n - s) (firstI s) = (leaves (n - s) (n - s) []).map (shiftL s) := by decide +kernel
theorem leaves_ok_s : ∀ n, n < 6 → ∀ s, s < n + 1 → ∀ l ∈ leaves n (n - s) (firstI s), l.length = n ∧ allDiff ((n : Int) - 1) l := by decide +kernel
theorem leaves_small : ∀ n, n < 6 → ∀ l ∈ leaves n n [], l.length = n ∧ ∀ x ∈ l, 0 ≤ x ∧ x ≤ 5 := by decide +kernel
theorem l03Order_loop (s : Nat) (hs : s < 6) (own : List Int) (hl : own.length ≤ 5) (ho : ∀ x ∈ own, 0 ≤ x ∧ x ≤ 5) : ∀ (d i k : Nat) (out : List Int), i + d = own.length → out.length ≤ 5 + i → d + 1 ≤ k → spec_l03Order.l0 k s own out i = some (out ++ (own.drop i).map fun x => (s : Int) + x)
  | 0, i, k, out, hd, hout, hk => by
    obtain ⟨k, rfl⟩ : ∃ q, k = q + 1 := ⟨k - 1, by omega⟩
    rw [spec_l03Order.l0, if_neg (by omega), List.drop_eq_nil_of_le (by omega)]; simp
  | d + 1, i, k, out, hd, hout, hk => by
    obtain ⟨k, rfl⟩ : ∃ q, k = q + 1 := ⟨k - 1, by omega⟩
    have hi : i < own.length := by omega
    have hx := ho _ (List.getElem_mem hi)
    rw [spec_l03Order.l0, if_pos (by omega), if_pos (by omega), if_pos (by omega), w64_succ (by omega), rd_of_lt own hi, show wrap64 ((s : Int) + own[i]) = (s : Int) + own[i] from by unfold wrap64; omega]
    rw [l03Order_loop s hs own hl ho d (i + 1) k _ (by omega) (by rw [List.length_append]; simp only [List.length_cons, List.length_nil]; omega) (by omega), List.append_assoc, List.drop_eq_getElem_cons hi]
    rfl
theorem l03Order_eq (s : Nat) (hs : s < 6) (own : List Int) (hl : own.length ≤ 5) (ho : ∀ x ∈ own, 0 ≤ x ∧ x ≤ 5) (k : Nat) (hk : 100 ≤ k) : spec_l03Order.f k s own = some (shiftL s own) := by
  unfold spec_l03Order.f
  rw [firstS_eq s (by omega) (by omega) k (by omega)]
  simp only [Option.bind_some, Int.toNat_natCast]
  have hfl : ∀ n, n < 6 → (firstI n).length = n := by decide
  have hfs := hfl s hs
  have := l03Order_loop s hs own hl ho own.length 0 k (firstI s) (by omega) (by omega) (by omega)
  rw [show ((0 : Nat) : Int) = 0 from rfl] at this
  rw [this]; rfl
/-- What is asked of each own order of a flag. -/
theorem own_ok (n s : Nat) (hn : n < 6) (hs : s < n + 1) : ∀ l ∈ leaves (n - s) (n - s) [], (l.length ≤ 5 ∧ ∀ y ∈ l, 0 ≤ y ∧ y ≤ 5) ∧ (shiftL s l).length = n ∧ allDiff ((n : Int) - 1) (shiftL s l) := by
  intro l hl
  have h1 := leaves_small (n - s) (by omega) l hl
  have h2 := leaves_ok_s n hn s hs (shiftL s l) (by rw [leaves_shift n hn s hs]; exact List.mem_map_of_mem hl)
  exact ⟨⟨by omega, h1.2⟩, h2⟩

end Go.Proofs.Ytafkdkiagmbeaaa.Q
end

section
/- A contract of one Go function: what it returns for its arguments; printed by the kit's print program or written by hand. -/
namespace Go.Proofs.Ytafkdkiagmbeaaa.Q
open Go.RowKit Go.Proofs.YtafkdkiagmbeaaaW.PrintWords Go.Proofs.YtafkdkiagmbeaaaW.PrintLast Go.Proofs.YtafkdkiagmbeaaaW.PrintMore
attribute [local go_sem] max2_int min2_int max_two min_two max_three min_three max_four min_four   -- for this text's walks alone
set_option linter.unusedVariables false
set_option linter.unusedSimpArgs false

/-! #### pure: Group -/
theorem bits_of (f : Nat → Bool) : ∀ m, ∃ b, b < 2 ^ m ∧ ∀ q, q < m → b.testBit q = f q
  | 0 => ⟨0, by simp, fun q hq => absurd hq (Nat.not_lt_zero _)⟩
  | m + 1 => by
    obtain ⟨b, hb, h⟩ := bits_of f m
    cases hf : f m
    · refine ⟨b, by rw [Nat.pow_succ]; omega, fun q hq => ?_⟩
      by_cases hqm : q = m
      · subst hqm
        rw [hf]; exact Nat.testBit_lt_two_pow hb
      · exact h q (by omega)
    · refine ⟨2 ^ m + b, by rw [Nat.pow_succ]; omega, fun q hq => ?_⟩
      by_cases hqm : q = m
      · subst hqm
        rw [hf, Nat.testBit_two_pow_add_eq, Nat.testBit_lt_two_pow hb]; rfl
      · rw [Nat.testBit_two_pow_add_gt (by omega)]; exact h q (by omega)
def pairAt (J : Nat → Nat → Bool) : Nat → Bool
  | 0 => J 0 1 | 1 => J 0 2 | 2 => J 1 2 | 3 => J 0 3 | 4 => J 1 3 | 5 => J 2 3 | 6 => J 0 4 | 7 => J 1 4 | 8 => J 2 4 | 9 => J 3 4 | _ => false
theorem pairAt_bit (J : Nat → Nat → Bool) {i j : Nat} (hij : i < j) (hj : j < 5) : pairAt J (bitIx i j) = J i j := by
  have : (i = 0 ∧ j = 1) ∨ (i = 0 ∧ j = 2) ∨ (i = 1 ∧ j = 2) ∨ (i = 0 ∧ j = 3) ∨ (i = 1 ∧ j = 3) ∨ (i = 2 ∧ j = 3) ∨ (i = 0 ∧ j = 4) ∨ (i = 1 ∧ j = 4) ∨ (i = 2 ∧ j = 4) ∨ (i = 3 ∧ j = 4) := by omega
  rcases this with ⟨rfl, rfl⟩ | ⟨rfl, rfl⟩ | ⟨rfl, rfl⟩ | ⟨rfl, rfl⟩ | ⟨rfl, rfl⟩ | ⟨rfl, rfl⟩ | ⟨rfl, rfl⟩ | ⟨rfl, rfl⟩ | ⟨rfl, rfl⟩ | ⟨rfl, rfl⟩ <;> rfl
theorem hasI_bit : ∀ b : Nat, b < 1024 → ∀ i : Nat, i < 5 → ∀ j : Nat, j < 5 → i ≠ j → hasI (b : Int) (i : Int) (j : Int) = b.testBit (bitIx i j) := by decide +kernel
theorem bitIx_lt : ∀ n, n < 6 → ∀ j, j < n → ∀ i, i < j → bitIx i j < prs n := by decide
theorem prs_le : ∀ n, n < 6 → 2 ^ prs n ≤ 1024 := by decide
theorem made_has : ∀ n, n < 6 → ∀ b, b < 2 ^ prs n → madeI n (fun i j => hasI (b : Nat) i j) = (b : Nat) := by decide +kernel
theorem made_spec (n : Nat) (hn : n < 6) (J : Nat → Nat → Bool) : ∃ b : Nat, b < 2 ^ prs n ∧ madeI n J = b ∧ ∀ i j : Nat, i < j → j < n → hasI b i j = J i j := by
  obtain ⟨b, hb, h⟩ := bits_of (pairAt J) (prs n)
  have hb' : b < 1024 := Nat.lt_of_lt_of_le hb (prs_le n hn)
  have hJ : ∀ i j : Nat, i < j → j < n → hasI b i j = J i j := fun i j hij hj => by
    rw [hasI_bit b hb' i (by omega) j (by omega) (by omega), h _ (bitIx_lt n hn j hj i hij), pairAt_bit J hij (by omega)]
  exact ⟨b, hb, by rw [madeI_congr (J' := fun i j => hasI b i j) fun i j hij hj => (hJ i j hij hj).symm]; exact made_has n hn b hb, hJ⟩
theorem hasI_comm (e : Int) {a b : Nat} (h : a ≠ b) : hasI e a b = hasI e b a := by
  unfold hasI bitI
  rw [show bitIx (a : Int).toNat (b : Int).toNat = bitIx (b : Int).toNat (a : Int).toNat from by
    simp only [Int.toNat_natCast]; unfold bitIx
    by_cases hab : a > b
    · rw [if_pos hab, if_neg (by omega)]
    · rw [if_neg hab, if_pos (by omega)]]
/-- An order of the n vertices: at each place a vertex, no vertex twice. -/
def isOrd (n : Nat) (l : List Int) : Prop := l.length = n ∧ allDiff ((n : Int) - 1) l
theorem isOrd.at {n : Nat} {l : List Int} (h : isOrd n l) (i : Nat) (hi : i < n) : ∃ a : Nat, a < n ∧ rd l i = a := by
  have hl : i < l.length := by rw [h.1]; exact hi
  have := h.2.2 _ (List.getElem_mem hl)
  exact ⟨l[i].toNat, by omega, by rw [rd_of_lt l hl]; omega⟩
theorem isOrd.ne {n : Nat} {l : List Int} (h : isOrd n l) {i j : Nat} (hij : i ≠ j) (hi : i < n) (hj : j < n) : rd l i ≠ rd l j := by
  have hl : i < l.length := by rw [h.1]; exact hi
  have hl2 : j < l.length := by rw [h.1]; exact hj
  rw [rd_of_lt l hl, rd_of_lt l hl2]
  rcases Nat.lt_or_gt_of_ne hij with h1 | h1
  · exact List.pairwise_iff_getElem.1 h.2.1 i j hl hl2 h1
  · exact fun e => List.pairwise_iff_getElem.1 h.2.1 j i hl2 hl h1 e.symm
theorem onI_nat (n : Nat) (hn : n < 6) (e : Int) {l : List Int} (h : isOrd n l) : ∃ b : Nat, b < 2 ^ prs n ∧ onI e l = b ∧ ∀ i j : Nat, i ≠ j → i < n → j < n → hasI b i j = hasI e (rd l i) (rd l j) := by
  obtain ⟨b, hb, h1, h2⟩ := made_spec n hn (fun i j => hasI e (rd l i) (rd l j))
  refine ⟨b, hb, by unfold onI; rw [h.1]; exact h1, fun i j hij hi hj => ?_⟩
  rcases Nat.lt_or_gt_of_ne hij with hlt | hlt
  · exact h2 i j hlt hj
  · rw [hasI_comm b hij, h2 j i hlt hi]
    obtain ⟨x, hx, ex⟩ := h.at i hi
    obtain ⟨y, hy, ey⟩ := h.at j hj
    have := h.ne hij hi hj
    rw [ex, ey] at this ⊢
    exact hasI_comm e (by omega)
/-- First the order l, then p. -/
def comp (l p : List Int) : List Int := p.map fun x => rd l x
theorem rd_comp {n : Nat} {l p : List Int} (hp : isOrd n p) (i : Nat) (hi : i < n) : rd (comp l p) i = rd l (rd p i) := by
  have h1 : i < p.length := by rw [hp.1]; exact hi
  rw [rd_of_lt p h1, rd_of_lt _ (by unfold comp; rw [List.length_map]; exact h1)]
  simp [comp]
theorem isOrd.comp {n : Nat} {l p : List Int} (hl : isOrd n l) (hp : isOrd n p) : isOrd n (comp l p) := by
  have hlen : (Q.comp l p).length = n := by unfold Q.comp; rw [List.length_map]; exact hp.1
  have hget : ∀ i (h : i < (Q.comp l p).length), ∃ a : Nat, a < n ∧ rd p i = a ∧ (Q.comp l p)[i] = rd l a := fun i h => by
    obtain ⟨a, ha, e⟩ := hp.at i (by omega)
    exact ⟨a, ha, e, by rw [← rd_of_lt (Q.comp l p) h, rd_comp hp i (by omega), e]⟩
  refine ⟨hlen, List.pairwise_iff_getElem.2 fun i j hi hj hij => ?_, fun x hx => ?_⟩
  · obtain ⟨a, ha, ea, e1⟩ := hget i hi
    obtain ⟨b, hb, eb, e2⟩ := hget j hj
    rw [e1, e2]
    refine hl.ne (fun e => ?_) ha hb
    exact hp.ne (show i ≠ j by omega) (by omega) (by omega) (by rw [ea, eb, e])
  · obtain ⟨i, hi, rfl⟩ := List.getElem_of_mem hx
    obtain ⟨a, ha, _, e1⟩ := hget i hi
    obtain ⟨c, hc, ec⟩ := hl.at a ha
    rw [e1, ec]; omega
theorem onI_comp (n : Nat) (hn : n < 6) (e : Int) {l p : List Int} (hl : isOrd n l) (hp : isOrd n p) : onI (onI e l) p = onI e (comp l p) := by
  obtain ⟨b, hb, e1, h1⟩ := onI_nat n hn e hl
  rw [e1]
  unfold onI
  rw [hp.1, (hl.comp hp).1]
  refine madeI_congr fun i j hij hj => ?_
  obtain ⟨x, hx, ex⟩ := hp.at i (by omega)
  obtain ⟨y, hy, ey⟩ := hp.at j hj
  have hne := hp.ne (show i ≠ j by omega) (by omega) hj
  rw [rd_comp hp i (by omega), rd_comp hp j hj, ex, ey]
  rw [ex, ey] at hne
  exact h1 x y (by omega) hx hy

end Go.Proofs.Ytafkdkiagmbeaaa.Q
end
