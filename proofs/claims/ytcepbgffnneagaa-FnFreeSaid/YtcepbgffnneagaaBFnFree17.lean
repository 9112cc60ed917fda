/- Contracts of Go functions and plain lemmas over what they compute; printed by the kit's print program or written by hand, joined. -/
import Derived.Test.YtcepbgffnneagaaBFnFree3
import Derived.Test.YtcepbgffnneagaaBFnFree4
import Derived.Test.YtcepbgffnneagaaBFnFree9
import Derived.Test.YtcepbgffnneagaaBFnFree5
import Derived.Test.YtcepbgffnneagaaBFnFree16
import Derived.Test.YtcepbgffnneagaaBFnFree6
import Derived.Test.YtcepbgffnneagaaBFnFree10
import Derived.Test.YtcepbgffnneagaaBFnFree7
import Derived.Test.YtcepbgffnneagaaBFnFree8
import Derived.Test.YtcepbgffnneagaaBFnFree14
import Derived.Test.YtcepbgffnneagaaBFnFree15
import Derived.Test.YtcepbgffnneagaaBFnFree2
import Derived.WalkKit
import Derived.ProofKit
import Derived.OpenShut
import Derived.ChangeOld
import Derived.Deep.Slices
section
namespace Go.Proofs.Ytcepbgffnneagaa.Q
open Go.RowKit Go.Proofs.YtcepbgffnneagaaW.PrintWords Go.Proofs.YtcepbgffnneagaaW.PrintLast Go.Proofs.YtcepbgffnneagaaW.PrintMore
attribute [local go_sem] max2_int min2_int max_two min_two max_three min_three max_four min_four   -- for this text's walks alone
set_option linter.unusedVariables false
set_option linter.unusedSimpArgs false

theorem drawn_ok (l : List Int) (hl : srcOk l) (at_ seed : Int) (h0 : 0 ≤ at_) (h1 : at_ ≤ 40000) (n : Nat) (hn : n < 6) : ∃ (e : Nat) (a s : Int), e < 2 ^ prs n ∧ spec_l01Drawn.f l at_ seed n = some ((n : Int), (e : Int), a, s) ∧ at_ ≤ a ∧ a ≤ at_ + 6 := by
  obtain ⟨c1, c2, c3⟩ := a2graph_consts n hn
  obtain ⟨p1, p2⟩ := pow_prs n hn
  unfold spec_l01Drawn.f
  rw [c1]
  simp only [Option.bind_some, c2, c3]
  rw [if_pos (by omega)]
  obtain ⟨v, a, s, e1, hv0, hv1, ha0, ha1⟩ := src_pick l hl at_ seed ((2 ^ prs n : Nat) : Int) (by omega) (by omega) (by omega) (by omega)
  rw [e1]
  simp only [Option.bind_some, spec_l00Src_one.f]
  obtain ⟨v2, a2, s2, e2, _, _, hb0, hb1⟩ := src_pick l hl a s 4 (by omega) (by omega) (by omega) (by omega)
  rw [e2]
  simp only [Option.bind_some]
  obtain ⟨w, rfl⟩ : ∃ w : Nat, v = w := ⟨v.toNat, by omega⟩
  have hw : ((w : Int)) % 4294967296 = w := by omega
  by_cases h4 : (v2 == 0) = true
  · rw [if_pos h4]
    obtain ⟨v3, a3, s3, e3, hx0, hx1, hd0, hd1⟩ := src_pick l hl a2 s2 ((2 ^ prs n : Nat) : Int) (by omega) (by omega) (by omega) (by omega)
    rw [e3]
    obtain ⟨u, rfl⟩ : ∃ u : Nat, v3 = u := ⟨v3.toNat, by omega⟩
    have hu : ((u : Int)) % 4294967296 = u := by omega
    obtain ⟨r, hr, er⟩ := and_le w u (by omega)
    simp only [Option.bind_some, hw, hu, er]
    exact ⟨r, a3, s3, by omega, rfl, by omega, by omega⟩
  · rw [if_neg h4]
    simp only [Option.bind_some, hw]
    exact ⟨w, a2, s2, by omega, rfl, by omega, by omega⟩
theorem A2Forbidden_loop (l : List Int) (hl : srcOk l) : ∀ (d k : Nat) (out : List S27) (at_ seed : Int), d ≤ 2 → out.length + d ≤ 10 → 0 ≤ at_ → at_ + 10 * d ≤ 30000 → d + 1 ≤ k → ∃ R : List S27, spec_A2Forbidden.l0 k out d l at_ seed = some (out ++ R) ∧ R.length = d ∧ ∀ x ∈ R, ∃ m e : Nat, x = ⟨m, e⟩ ∧ m < 6 ∧ e < 2 ^ prs m
  | 0, k, out, at_, seed, hd, ho, h0, h1, hk => by
    obtain ⟨k, rfl⟩ : ∃ q, k = q + 1 := ⟨k - 1, by omega⟩
    exact ⟨[], by rw [spec_A2Forbidden.l0, if_neg (by omega), List.append_nil], rfl, fun x hx => by cases hx⟩
  | d + 1, k, out, at_, seed, hd, ho, h0, h1, hk => by
    obtain ⟨k, rfl⟩ : ∃ q, k = q + 1 := ⟨k - 1, by omega⟩
    obtain ⟨v, a, s, e1, hv0, hv1, ha0, ha1⟩ := src_pick l hl at_ seed 3 (by omega) (by omega) (by omega) (by omega)
    obtain ⟨m, hm, em⟩ : ∃ m : Nat, m < 6 ∧ wrap64 (2 + v) = m := ⟨(2 + v).toNat, by omega, by unfold wrap64; omega⟩
    obtain ⟨e, a2, s2, he, e2, hb0, hb1⟩ := drawn_ok l hl a s (by omega) (by omega) m hm
    obtain ⟨R, e3, hR, hx⟩ := A2Forbidden_loop l hl d k (out ++ [⟨m, e⟩]) a2 s2 (by omega) (by rw [List.length_append]; simp only [List.length_cons, List.length_nil]; omega) (by omega) (by omega) (by omega)
    refine ⟨⟨m, e⟩ :: R, ?_, by rw [List.length_cons, hR], fun x hx2 => ?_⟩
    · rw [spec_A2Forbidden.l0, if_pos (by omega), e1]
      simp only [Option.bind_some, em, e2]
      rw [if_pos (by omega), show wrap64 (((d + 1 : Nat) : Int) - 1) = (d : Int) from by unfold wrap64; omega, e3, List.append_assoc]
      rfl
    · rcases List.mem_cons.1 hx2 with rfl | hx2
      · exact ⟨m, e, rfl, hm, he⟩
      · exact hx x hx2
theorem validG_small : ∀ n : Nat, n < 6 → ∀ a : Nat, a < 2 ^ prs n → validG (n : Int) (a : Int) = true := by decide +kernel
theorem A2Forbidden_ok (l : List Int) (hl : srcOk l) (k : Nat) (hk : 10 ≤ k) : ∃ L : List S27, spec_A2Forbidden.f k l = some L ∧ okGs L ∧ L.length ≤ 6 ∧ (∀ x ∈ L, validG x.f0 x.f1 = true) ∧ forb L = 0 := by
  unfold spec_A2Forbidden.f spec_l00From.f
  simp only [Option.bind_some]
  obtain ⟨v, a, s, e1, hv0, hv1, ha0, ha1⟩ := src_pick l hl 0 0 3 (by omega) (by omega) (by omega) (by omega)
  rw [e1]
  obtain ⟨d, rfl⟩ : ∃ d : Nat, v = d := ⟨v.toNat, by omega⟩
  simp only [Option.bind_some]
  obtain ⟨R, e2, hR, hx⟩ := A2Forbidden_loop l hl d k [] a s (by omega) (by simp only [List.length_nil]; omega) (by omega) (by omega) (by omega)
  have h1 : okGs R := fun x hx1 => by
    obtain ⟨m, e, rfl, hm, he⟩ := hx x hx1
    have := pow_prs m hm
    exact ⟨by show (0 : Int) ≤ (e : Int); omega, by show (e : Int) ≤ 4294967295; omega⟩
  have h2 : ∀ x ∈ R, validG x.f0 x.f1 = true := fun x hx1 => by
    obtain ⟨m, e, rfl, hm, he⟩ := hx x hx1
    exact validG_small m hm e he
  refine ⟨R, e2, h1, by omega, h2, ?_⟩
  unfold forb
  rw [if_neg, if_neg (by omega)]
  rw [List.any_eq_true]
  rintro ⟨x, hx1, hx2⟩
  rw [h2 x hx1] at hx2
  cases hx2

end Go.Proofs.Ytcepbgffnneagaa.Q
end

section
namespace Go.Proofs.Ytcepbgffnneagaa.Q
open Go.RowKit Go.Proofs.YtcepbgffnneagaaW.PrintWords Go.Proofs.YtcepbgffnneagaaW.PrintLast Go.Proofs.YtcepbgffnneagaaW.PrintMore
attribute [local go_sem] max2_int min2_int max_two min_two max_three min_three max_four min_four   -- for this text's walks alone
set_option linter.unusedVariables false
set_option linter.unusedSimpArgs false

theorem same_loop (A : List S27) (hA : A.length ≤ 1048576) : ∀ (d i k : Nat), i + d = A.length → d + 1 ≤ k → spec_SameGraphs.l0 k A A i = some true
  | 0, i, k, hd, hk => by
    obtain ⟨k, rfl⟩ : ∃ q, k = q + 1 := ⟨k - 1, by omega⟩
    rw [spec_SameGraphs.l0, if_neg (by omega)]
  | d + 1, i, k, hd, hk => by
    obtain ⟨k, rfl⟩ : ∃ q, k = q + 1 := ⟨k - 1, by omega⟩
    rw [spec_SameGraphs.l0, if_pos (by omega), if_pos (by omega), if_pos (by omega), if_neg (by simp), w64_succ (by omega)]
    exact same_loop A hA d (i + 1) k (by omega) (by omega)
theorem same_self (A : List S27) (hA : A.length ≤ 1048576) (k : Nat) (hk : A.length + 1 ≤ k) : spec_SameGraphs.f k A A = some true := by
  unfold spec_SameGraphs.f
  rw [if_pos rfl]
  exact same_loop A hA A.length 0 k (Nat.zero_add _) hk
theorem free_due (n : Nat) (hn : n < 6) (e : Nat) (L : List S27) (ho : okGs L) (hL : L.length ≤ 6) (hv : ∀ x ∈ L, validG x.f0 x.f1 = true) (ve : impl_ValidGraph.f (n : Int) (e : Int) = some true) (x1 : List Int) (x6 : Int) (x8 : Bool) : ∀ (d i K : Nat) (b : Bool), i + d = L.length →
    laws_FnFree.l0 (K + d) x1 L x6 x8 0 b i n e = laws_FnFree.l0 K x1 L x6 x8 0 (b && !((L.drop i).any (partB n e))) L.length n e
  | 0, i, K, b, hd => by
    obtain rfl : i = L.length := by omega
    rw [List.drop_eq_nil_of_le (Nat.le_refl _)]
    simp
  | d + 1, i, K, b, hd => by
    have hi : i < L.length := by omega
    have hm := List.getElem_mem hi
    have hp : impl_HasPart.f (n : Int) (e : Int) L[i].f0 L[i].f1 = some (partB n e L[i], 0) := by
      unfold impl_HasPart.f
      rw [ve, ValidGraph_eq _ _ (ho _ hm).1 (ho _ hm).2, hv _ hm]
      simp only [Option.bind_some, if_true, (hasPart_x n hn e _ (ho _ hm) (hv _ hm)).1]
    rw [show K + (d + 1) = (K + d) + 1 from by omega, laws_FnFree.l0, if_pos (by omega), if_pos (by omega)]
    simp only [rdG_nat L hi, hp, Option.bind_some, if_true]
    rw [w64_succ (by omega), List.drop_eq_getElem_cons hi, List.any_cons]
    have ih := fun b => free_due n hn e L ho hL hv ve x1 x6 x8 d (i + 1) K b (by omega)
    cases b
    · rw [if_neg (by simp), ih]; simp
    · rw [if_pos rfl, ih]; simp [Bool.not_or]
theorem free_found (A : List S27) (hA : A.length ≤ 1048576) (x1 : List Int) (L : List S27) (x6 : Int) (x8 : Bool) (n e m : Int) : ∀ (d i K : Nat) (b : Bool), i + d = A.length →
    laws_FnFree.l1 (K + d) x1 L x6 x8 A 0 b i n e n m = laws_FnFree.l1 K x1 L x6 x8 A 0 (b || (A.drop i).any (fun x => x.f0 == n && x.f1 == m)) A.length n e n m
  | 0, i, K, b, hd => by
    obtain rfl : i = A.length := by omega
    rw [List.drop_eq_nil_of_le (Nat.le_refl _)]
    simp
  | d + 1, i, K, b, hd => by
    have hi : i < A.length := by omega
    rw [show K + (d + 1) = (K + d) + 1 from by omega, laws_FnFree.l1, if_pos (by omega)]
    simp only [rdG_nat A hi]
    rw [w64_succ (by omega), List.drop_eq_getElem_cons hi, List.any_cons]
    have ih := fun b => free_found A hA x1 L x6 x8 n e m d (i + 1) K b (by omega)
    cases b
    · rw [if_neg (by simp), if_pos (by omega), ih, Bool.false_or]
    · rw [if_pos rfl, ih]; simp
theorem isFree_eq (n : Nat) (hn : n < 6) (e : Nat) (he : e < 2 ^ prs n) (L : List S27) (ho : okGs L) (hL : L.length ≤ 6) (hv : ∀ x ∈ L, validG x.f0 x.f1 = true) (hf : forb L = 0) (k : Nat) (hk : 100 ≤ k) : impl_IsFree.f k n e L = some (!(L.any (partB n e)), 0) := by
  have hp := pow_prs n hn
  unfold impl_IsFree.f
  rw [ValidGraph_eq n e (by omega) (by omega), validG_small n hn e he]
  simp only [Option.bind_some, if_true, forbiddenOk_eq L (by omega) ho k (by omega), hf, free_eq n hn e L ho hL hv k (by omega)]
theorem FnFree_pure (l0 l1 : List Int) (h0 : l0.length < 9223372036854775808 ∧ ∀ x ∈ l0, (Lit.int .u8 x).wf = true) (h1 : l1.length < 9223372036854775808 ∧ ∀ x ∈ l1, (Lit.int .u8 x).wf = true) : ∃ k, laws_FnFree.f k l0 l1 = some true := by
  unfold laws_FnFree.f
  rcases a2Long_cases h0 h1 with h | ⟨h, s0, s1⟩
  · exact ⟨0, by rw [h]; rfl⟩
  rw [h]
  obtain ⟨L, eL', ho, h6, hv, hf⟩ := A2Forbidden_ok l1 s1 10 (by omega)
  have eL : ∀ k, 10 ≤ k → spec_A2Forbidden.f k l1 = some L := fun k hk => LeO_ge (F := fun k => spec_A2Forbidden.f k l1) (fun k => spec_A2Forbidden.mono _ k) hk _ eL'
  obtain ⟨n, hn5, en⟩ := a2At_ok s0 0 5 (by omega)
  obtain ⟨e, he, eg⟩ := A2Graph_ok l0 s0 n (by omega)
  have hn : n < 6 := by omega
  simp only [show ((0 : Nat) : Int) = 0 from rfl, show ((5 : Nat) : Int) = 5 from rfl] at en
  have hp := pow_prs n hn
  have ve : impl_ValidGraph.f (n : Int) (e : Int) = some true := by rw [ValidGraph_eq n e (by omega) (by omega), validG_small n hn e he]
  have him1 : ∀ k, 100 ≤ k → impl_forbiddenOk.f k L = some 0 := fun k hk => by rw [forbiddenOk_eq _ (by omega) ho k (by omega), hf]
  have hin : (0 : Int) ≤ n ∧ (n : Int) ≤ 5 := by omega
  have g1 : ∀ k, 3000 ≤ k → impl_FreeGraphs.f k n L = some (freeL n L, 0) := fun k hk => by
    unfold impl_FreeGraphs.f
    rw [him1 k (by omega), impl_sizeOk.f, in_eq4, decide_eq_true hin]
    simp only [Option.bind_some, if_true]
    rw [freeGraphs_eq n hn _ ho h6 hv k (by omega)]; rfl
  have g2 : ∀ k, 3000 ≤ k → spec_FreeGraphs.f k n L = some (freeL n L, 0) := fun k hk => by
    unfold spec_FreeGraphs.f
    rw [l01Forbidden_eq _ (by omega) ho k (by omega), hf]
    simp only [Option.bind_some, if_true]
    rw [l00In_eq, decide_eq_true hin]
    simp only [Option.bind_some, if_true]
    rw [l01AllFree_eq n hn _ ho h6 hv k (by omega)]; rfl
  have hfl := freeL_length n hn L
  obtain ⟨m, hm, em, hml⟩ := least_least n hn e he
  have lg : impl_LeastGraph.f (n : Int) (e : Int) = some ((n : Int), (m : Int), 0) := by
    have hle := least_eq n 0 hn (by omega) e (fun l hl => (leaves_ok n hn n (by omega) l hl).2)
    simp only [show ((0 : Nat) : Int) = 0 from rfl, show firstI 0 = [] from rfl, Nat.sub_zero] at hle
    unfold impl_LeastGraph.f
    rw [ve]
    simp only [Option.bind_some, if_true, hle, em]
  -- a part of the graph is one of its least graph
  have hpm : L.any (partB n m) = L.any (partB n e) := by
    rw [Bool.eq_iff_iff, List.any_eq_true, List.any_eq_true]
    have key : ∀ x ∈ L, partB n m x = partB n e x := fun x hx => by
      have := part_least n hn e he x (ho x hx).1 (hv x hx)
      rwa [em] at this
    exact ⟨fun ⟨x, hx, h⟩ => ⟨x, hx, by rw [← key x hx]; exact h⟩, fun ⟨x, hx, h⟩ => ⟨x, hx, by rw [key x hx]; exact h⟩⟩
  have hfound : (freeL n L).any (fun x => x.f0 == (n : Int) && x.f1 == (m : Int)) = !(L.any (partB n e)) := by
    rw [Bool.eq_iff_iff, List.any_eq_true]
    constructor
    · rintro ⟨x, hx, h⟩
      obtain ⟨q, rfl, _, _, hq⟩ := gList_ok n _ _ _ x hx
      simp only [Bool.and_eq_true, beq_iff_eq] at h
      have : q = m := by have := h.2; omega
      subst this
      rw [Bool.and_eq_true] at hq
      rw [← hpm]; exact hq.1
    · intro h
      exact ⟨⟨n, m⟩, gList_mem n _ _ _ m (by omega) (by omega) (by rw [hpm, h, hml]; rfl), by simp⟩
  refine ⟨5000 + 1 + 1 + 1 + (freeL n L).length + 1 + 1 + L.length, ?_⟩
  simp only [Option.bind_some, Bool.false_eq_true, if_false, en, eg]
  rw [eL _ (by omega)]
  simp only [Option.bind_some, en, eg]
  rw [isFree_eq n hn e he L ho h6 hv hf _ (by omega)]
  simp only [Option.bind_some]
  have fd := free_due n hn e L ho h6 hv ve l1 n (!(L.any (partB n e))) L.length 0 (5000 + 1 + 1 + 1 + (freeL n L).length + 1 + 1) true (Nat.zero_add _)
  rw [show ((0 : Nat) : Int) = 0 from rfl, List.drop_zero, Bool.true_and] at fd
  rw [fd, laws_FnFree.l0, if_neg (by omega), g1 _ (by omega)]
  simp only [Option.bind_some]
  rw [g2 _ (by omega)]
  simp only [Option.bind_some, if_true, bne_self_eq_false, Bool.false_eq_true, if_false]
  rw [same_self _ (by omega) _ (by omega)]
  simp only [Option.bind_some, Bool.not_true]
  rw [laws_FnFree.j1, if_neg (by simp), lg]
  simp only [Option.bind_some]
  have ff := free_found (freeL n L) (by omega) l1 L n (!(L.any (partB n e))) n e m (freeL n L).length 0 (5000 + 1 + 1 + 1) false (Nat.zero_add _)
  rw [show ((0 : Nat) : Int) = 0 from rfl, List.drop_zero, Bool.false_or, hfound] at ff
  rw [ff, laws_FnFree.l1, if_neg (by omega), if_pos rfl, bne_self_eq_false, laws_FnFree.j3, if_neg (by simp)]
  by_cases hz : (n : Int) = 0
  · rw [if_pos hz, laws_FnFree.j4, if_pos rfl]
  rw [if_neg hz, laws_FnFree.j4]
  by_cases hfree : L.any (partB n e) = true
  · rw [if_pos (by rw [hfree]; rfl)]
  rw [if_neg (by simp [hfree])]
  obtain ⟨p, hp2, eo⟩ := A2Order_ok l1 s1 n hn 5000 (by omega)
  have op : isOrd n p := by
    have := leaves_ok_s n hn 0 (by omega)
    rw [show firstI 0 = [] from rfl, Nat.sub_zero] at this
    exact this p hp2
  have hd : allDiff ((n : Int) - 1) (p.drop 1) := ⟨op.2.1.sublist (List.drop_sublist 1 p), fun x hx => op.2.2 x (List.mem_of_mem_drop hx)⟩
  have hdw : allDiff (wrap64 ((n : Int) - 1)) (p.drop 1) := by
    rw [show wrap64 ((n : Int) - 1) = (n : Int) - 1 from by unfold wrap64; omega]; exact hd
  have hpl := op.1
  have hlen : (p.drop 1).length = n - 1 := by rw [List.length_drop, hpl]
  obtain ⟨b, hb, eb⟩ := onI_small (n - 1) (by omega) e hlen
  have hind : laws_FnFree.ind n e p = some (((n - 1 : Nat) : Int), (b : Int), 0) := by
    unfold laws_FnFree.ind impl_InducedOn.f
    rw [if_pos (by omega), ve]
    simp only [Option.bind_some, if_true, impl_different.f, decide_eq_true hdw, impl_onT.eq n e (okList_diff (m := n) (by omega) (by omega) hdw), eb, hlen]
  rw [eo]
  simp only [Option.bind_some]
  rw [hind]
  simp only [Option.bind_some]
  rw [isFree_eq (n - 1) (by omega) b hb L ho h6 hv hf _ (by omega)]
  simp only [Option.bind_some, if_true]
  congr 1
  rw [Bool.not_eq_true', List.any_eq_false]
  intro x hx h3
  rw [← eb] at h3
  exact hfree (List.any_eq_true.2 ⟨x, hx, part_down n (n - 1) hn (by omega) e x (ho x hx).1 (hv x hx) hlen hd h3⟩)

end Go.Proofs.Ytcepbgffnneagaa.Q
end

section
namespace Go.Proofs.YtcepbgffnneagaaW.PrintWords
open Go Go.RowKit Go.ChangeShapes Go.WideShapes Go.ChangeAt Go.Deep
set_option linter.unusedVariables false
section
variable {H : Type} (enc : TypeId × Value → H) (P : Program) (W : World)
/-- Whatever reads as data of type t stands for a plain value. -/
def Opens {α : Type} (t : TypeId) (k : Kd α) (wf : α → Prop) : Prop :=
  ∀ (fuel : Nat) (cs : List Value) (x : DataW H × List MemPlace), DataW.trod enc P W 0 (fun _ => true) true fuel t cs = some x → ∃ a, k.K W a cs ∧ wf a
end
section
variable {H : Type} {enc : TypeId × Value → H} {P : Program} {W : World}
theorem Opens.int {t : TypeId} {k : IntKind} (ht : P.underlying t = some (.int k)) : Opens enc P W t (Kd.int k) (fun n => (Lit.int k n).wf = true) := by
  intro fuel cs x h
  obtain ⟨n, rfl, _, hw⟩ := DataW.trod_int ht h
  exact ⟨n, rfl, hw⟩
theorem Opens.bool {t : TypeId} (ht : P.underlying t = some .bool) : Opens enc P W t Kd.bool (fun _ => True) := by
  intro fuel cs x h
  obtain ⟨n, rfl, _⟩ := DataW.trod_bool ht h
  exact ⟨n, rfl, trivial⟩
theorem Opens.iso {α β : Type} {t : TypeId} {k : Kd α} {p : α → Prop} (f : β → α) (g : α → β) (hfg : ∀ a, f (g a) = a) (h : Opens enc P W t k p) : Opens enc P W t (Kd.iso k f) (fun b => p (f b)) := by
  intro fuel cs x hx
  obtain ⟨a, ka, wa⟩ := h fuel cs x hx
  exact ⟨g a, by show k.K W (f (g a)) cs; rw [hfg]; exact ka, by show p (f (g a)); rw [hfg]; exact wa⟩
theorem Opens.slice {α : Type} (z : α) {t e : TypeId} {k : Kd α} {p : α → Prop} (ht : P.underlying t = some (.slice e)) (hs : k.sz = P.cellsOf e) (h : Opens enc P W e k p) : Opens enc P W t (Kd.slice e k) (fun l => l.length < 9223372036854775808 ∧ ∀ a ∈ l, p a) := by
  haveI : Inhabited α := ⟨z⟩
  intro fuel cs x hx
  rcases open_slice ht hx with ⟨rfl, _⟩ | ⟨ad, len, cap, m, n, D, Pl, rfl, _, hl, hm, hmm, _, hel⟩
  · exact ⟨[], ⟨none, 0, rfl, Nat.le_refl _, rfl, by simp, fun h0 => absurd h0 (Nat.lt_irrefl 0)⟩, by simp, fun a ha => by cases ha⟩
  · have hlm : len ≤ m := by
      rw [hmm]; split
      · exact hl
      · exact Nat.le_refl _
    obtain ⟨F, hF⟩ := choose_lt (α := α) (n := len) (p := fun i a => p a ∧ ∃ cs', k.K W a cs' ∧ W.cells? 0 (ad.add (i * P.cellsOf e)) (P.cellsOf e) = some cs') (fun i hi => by
      obtain ⟨cs', h1, h2⟩ := hel i (by omega)
      obtain ⟨a, ka, wa⟩ := h n _ _ h2
      exact ⟨a, wa, cs', ka, h1⟩)
    refine ⟨(List.range len).map F, ⟨some ad, cap, by simp, by simpa using hl, by simp, by simp; unfold maxLen at hm; omega, fun _ => ⟨ad, rfl, fun j q hq => ?_⟩⟩, by simp; unfold maxLen at hm; omega, fun a ha => ?_⟩
    · obtain ⟨hj, rfl⟩ : j < len ∧ F j = q := by
        rw [List.getElem?_map] at hq
        rcases Nat.lt_or_ge j len with hj | hj
        · rw [List.getElem?_range hj] at hq; exact ⟨hj, by simpa using hq⟩
        · rw [List.getElem?_eq_none (by simpa using hj)] at hq; simp at hq
      obtain ⟨_, cs', ka, h1⟩ := hF j hj
      obtain ⟨_, hlen, hcell⟩ := World.cells?_some h1
      refine ⟨cs', k.K_len ka, ka, fun i u hu => ?_⟩
      have hi : i < P.cellsOf e := by rw [← hlen]; exact (List.getElem?_eq_some_iff.1 hu).1
      rw [hs, ← add_add, hcell i hi]; exact hu
    · obtain ⟨i, hi, rfl⟩ := List.mem_map.1 ha
      exact (hF i (List.mem_range.1 hi)).1
end
end Go.Proofs.YtcepbgffnneagaaW.PrintWords
end
