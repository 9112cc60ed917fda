/- Contracts of Go functions and plain lemmas over what they compute; printed by the kit's print program or written by hand, joined. -/
import Derived.Test.YtcepbgffnneagaaBFnCopies3
import Derived.Test.YtcepbgffnneagaaBFnCopies5
import Derived.Test.YtcepbgffnneagaaBFnCopies8
import Derived.Test.YtcepbgffnneagaaBFnCopies10
import Derived.Test.YtcepbgffnneagaaBFnCopies11
import Derived.Test.YtcepbgffnneagaaBFnCopies12
import Derived.Test.YtcepbgffnneagaaBFnCopies13
import Derived.Test.YtcepbgffnneagaaBFnCopies14
import Derived.Test.YtcepbgffnneagaaBFnCopies15
import Derived.Test.YtcepbgffnneagaaBFnCopies4
import Derived.Test.YtcepbgffnneagaaBFnCopies2
import Derived.WalkKit
import Derived.ProofKit
import Derived.OpenShut
import Derived.ChangeOld
import Derived.Deep.Slices
section
namespace Go.Proofs.Ytcepbgffnneagaa.Q
open Go.RowKit Go.Proofs.YtcepbgffnneagaaW.PrintWords Go.Proofs.YtcepbgffnneagaaW.PrintLast Go.Proofs.YtcepbgffnneagaaW.PrintMore
attribute [local go_sem] max2_int min2_int max_two min_two max_three min_three max_four min_four   -- for this text's walks alone
set_option linter.unusedVariables false
set_option linter.unusedSimpArgs false

theorem rdG_nat (l : List S27) {i : Nat} (hi : i < l.length) : rd_T27 l (i : Int) = l[i] := by unfold rd_T27; exact getD_of_lt l _ hi

end Go.Proofs.Ytcepbgffnneagaa.Q
end

section
namespace Go.Proofs.Ytcepbgffnneagaa.Q
open Go.RowKit Go.Proofs.YtcepbgffnneagaaW.PrintWords Go.Proofs.YtcepbgffnneagaaW.PrintLast Go.Proofs.YtcepbgffnneagaaW.PrintMore
attribute [local go_sem] max2_int min2_int max_two min_two max_three min_three max_four min_four   -- for this text's walks alone
set_option linter.unusedVariables false
set_option linter.unusedSimpArgs false

def dueF (n : Int) : Nat → Nat → Int → Int
  | 0, _, x => x
  | d + 1, i, x => dueF n d (i + 1) (wrap64 (Int.tdiv (wrap64 (x * (wrap64 (n - (i : Int))))) ((i + 1 : Nat) : Int)))
theorem copies_due (x1 : List Int) (n e0 e1 total : Int) (kk : Nat) (hk : kk < 100) : ∀ (d i K : Nat) (x : Int), i + d = kk → laws_FnCopies.l1 (K + d) x1 n kk total x i e0 e1 = laws_FnCopies.l1 K x1 n kk total (dueF n d i x) kk e0 e1
  | 0, i, K, x, h => by
    obtain rfl : i = kk := by omega
    rfl
  | d + 1, i, K, x, h => by
    have hw : wrap64 ((i : Int) + 1) = ((i + 1 : Nat) : Int) := by unfold wrap64; omega
    rw [show K + (d + 1) = (K + d) + 1 from by omega, laws_FnCopies.l1, if_pos (by omega), hw, if_neg (by omega), copies_due x1 n e0 e1 total kk hk d (i + 1) K _ (by omega)]
    rfl
theorem due_is : ∀ n : Nat, n < 6 → ∀ k : Nat, k < 5 → (n < k ∨ dueF n k 0 1 = ((setsL n k).length : Int)) := by decide +kernel
theorem and_own (h : Nat) (hh : h < 1024) : Go.bits .and .u32 (h : Int) (h : Int) = h := by
  rw [bits_and32, BitVec.and_self, BitVec.toNat_ofInt]; omega
theorem copies_part (n k : Nat) (hn : n < 6) (hk : k < 6) (e h : Nat) (hh : h < 2 ^ prs k) {l : List Int} (hl : l ∈ setsL n k) (ho : occB 0 k h e l = true) : ((leaves n k []).any fun l => decide (Go.bits .and .u32 h (onI e l) = h)) = true := by
  have hs := (sets_ok n hn k hk).2 l hl
  obtain ⟨b, hb, eb, _⟩ := onI_nat2 n k hk e hs.1 hs.2
  obtain ⟨p, hp, e1⟩ := (occ_iff k hk e h b hh hb eb).1 ho
  have op : isOrd k p := by
    have := leaves_ok_s k hk 0 (by omega)
    rw [show firstI 0 = [] from rfl, Nat.sub_zero] at this
    exact this p hp
  have h3 := onI_comp2 n k k hk e hs.1 hs.2 op.1 op.2
  rw [eb, e1] at h3
  have h4 := prs_le k hk
  rw [List.any_eq_true]
  exact ⟨comp l p, set_mem (by rw [comp_len]; exact op.1) (comp_set hs.1 hs.2 op.1 op.2), by rw [← h3, decide_eq_true_eq]; exact and_own h (by omega)⟩
def occN (n k : Nat) (e : Int) (x : S27) : Nat := (setsL n k).countP (occB 0 k x.f1 e)
theorem countCopies_nat (n k : Nat) (hn : n < 6) (hk : k < 6) (e h : Nat) (hh : h < 2 ^ prs k) (v1 : impl_ValidGraph.f (n : Int) (e : Int) = some true) (v2 : impl_ValidGraph.f (k : Int) (h : Int) = some true) (hkn : k ≤ n) : impl_CountCopies.f (k : Int) (h : Int) (n : Int) (e : Int) = some ((((setsL n k).countP (occB 0 k h e) : Nat) : Int), 0) := by
  have hl := (sets_ok n hn k hk).1
  have := cntE_eq (occB 0 k h e) (setsL n k) 0 (by omega)
  rw [show ((0 : Nat) : Int) = 0 from rfl, Nat.zero_add] at this
  simp only [impl_CountCopies.f, v1, v2, Option.bind_some, if_true, Bool.not_true, Bool.false_eq_true, if_false, copies_eq n k hn hk e h hh, this]
theorem copies_loop (n k : Nat) (hn : n < 6) (hk : k < 5) (hkn : k ≤ n) (e f : Nat) (he : e < 2 ^ prs n) (hf : f < 2 ^ prs n) (ef : oppI n e = f) (val : ∀ n < 6, ∀ a : Nat, a < 2 ^ prs n → impl_ValidGraph.f (n : Int) (a : Int) = some true) (x1 : List Int) (A : List S27) (hA : A.length ≤ 1048576) (hm : ∀ x ∈ A, ∃ h : Nat, x = ⟨k, h⟩ ∧ h < 2 ^ prs k) :
    ∀ (d i K total : Nat), i + d = A.length → total + 10 * d ≤ 20000000 → 1000 ≤ K → laws_FnCopies.l0 (K + d + 1) x1 n k A total i n e n f = laws_FnCopies.l1 K x1 n k ((total + ((A.drop i).map (occN n k e)).sum : Nat) : Int) 1 0 n e
  | 0, i, K, total, hd, ht, hK => by
    rw [show K + 0 + 1 = K + 1 from rfl, laws_FnCopies.l0, if_neg (by omega), List.drop_eq_nil_of_le (by omega)]
    rfl
  | d + 1, i, K, total, hd, ht, hK => by
    have hi : i < A.length := by omega
    obtain ⟨h, e1, hh⟩ := hm _ (List.getElem_mem hi)
    obtain ⟨g, hg, eg, _⟩ := opp_spec k (by omega) h hh
    have hop := opposite_eq k h (by omega) hh (K + (d + 1)) (by omega)
    have hopp : impl_OppositeGraph.f (K + (d + 1)) (k : Int) (h : Int) = some ((k : Int), (g : Int), 0) := by
      unfold impl_OppositeGraph.f
      rw [val k (by omega) h hh]
      simp only [Option.bind_some, if_true, hop]
      rw [show Go.bits .xor .u32 (2 ^ prs k - 1 : Int) (h : Int) = g from eg]
    have c1 := countCopies_nat n k hn (by omega) e h hh (val n hn e he) (val k (by omega) h hh) hkn
    have c2 := countCopies_nat n k hn (by omega) f g hg (val n hn f hf) (val k (by omega) g hg) hkn
    have hok := sets_ok n hn k (by omega)
    have c3 : (setsL n k).countP (occB 0 k g f) = (setsL n k).countP (occB 0 k h e) := List.countP_congr fun l hl => by
      rw [← eg, ← ef, occ_opp n k hn (by omega) e h he hh (hok.2 l hl).1 (hok.2 l hl).2]
    have hle : (setsL n k).countP (occB 0 k h e) ≤ 10 := Nat.le_trans List.countP_le_length hok.1
    have pb := prs_le k (by omega)
    have hpart : impl_HasPart.f (n : Int) (e : Int) (k : Int) (h : Int) = some ((leaves n k []).any fun l => decide (Go.bits .and .u32 h (onI e l) = h), 0) := by
      simp only [impl_HasPart.f, val n hn e he, val k (by omega) h hh, if_true, Option.bind_some, hasPart_eq n k hn (by omega) e h (by omega) (by omega)]
    rw [c3] at c2
    rw [laws_FnCopies.l0]
    simp only [rdG_nat A hi, e1]
    rw [if_pos (by omega), if_pos (by omega), c1, hopp]
    simp only [Option.bind_some]
    rw [c2, hpart]
    simp only [Option.bind_some, if_true]
    have step := copies_loop n k hn hk hkn e f he hf ef val x1 A hA hm d (i + 1) K (total + (setsL n k).countP (occB 0 k h e)) (by omega) (by omega) hK
    have hw1 : wrap64 ((i : Int) + 1) = ((i + 1 : Nat) : Int) := by unfold wrap64; omega
    have hw2 : wrap64 ((total : Int) + (((setsL n k).countP (occB 0 k h e) : Nat) : Int)) = ((total + (setsL n k).countP (occB 0 k h e) : Nat) : Int) := by unfold wrap64; omega
    have hsum : total + ((A.drop i).map (occN n k e)).sum = total + (setsL n k).countP (occB 0 k h e) + ((A.drop (i + 1)).map (occN n k e)).sum := by
      rw [List.drop_eq_getElem_cons hi, List.map_cons, List.sum_cons, e1]
      show total + ((setsL n k).countP (occB 0 k h e) + _) = _
      omega
    rw [hw1, hw2, show K + (d + 1) = K + d + 1 from rfl, step, hsum]
    split
    · next hpos =>
      rw [if_pos]
      have : 0 < (setsL n k).countP (occB 0 k h e) := by omega
      obtain ⟨l, hl, ho⟩ := List.countP_pos_iff.1 this
      exact copies_part n k hn (by omega) e h hh hl ho
    · rfl
theorem FnCopies_pure (l0 l1 : List Int) (h0 : l0.length < 9223372036854775808 ∧ ∀ x ∈ l0, (Lit.int .u8 x).wf = true) (h1 : l1.length < 9223372036854775808 ∧ ∀ x ∈ l1, (Lit.int .u8 x).wf = true) : ∃ k, laws_FnCopies.f k l0 l1 = some true := by
  unfold laws_FnCopies.f
  rcases a2Long_cases h0 h1 with h | ⟨h, s0, s1⟩
  · exact ⟨0, by rw [h]; rfl⟩
  rw [h]
  obtain ⟨n, hn, en⟩ := a2At_ok s1 0 6 (by omega)
  obtain ⟨k', hk', ek⟩ := a2At_ok s1 1 5 (by omega)
  obtain ⟨e, he, eg⟩ := A2Graph_ok l0 s0 n hn
  simp only [show ((0 : Nat) : Int) = 0 from rfl, show ((1 : Nat) : Int) = 1 from rfl, show ((5 : Nat) : Int) = 5 from rfl, show ((6 : Nat) : Int) = 6 from rfl] at en ek
  obtain ⟨k, hk, hkn, eq⟩ : ∃ k : Nat, k < 5 ∧ k ≤ n ∧ ∀ K, (if (k' : Int) > n then laws_FnCopies.j0 K l1 n n n e else laws_FnCopies.j0 K l1 n k' n e) = laws_FnCopies.j0 K l1 n k n e := by
    by_cases hc : (k' : Int) > n
    · exact ⟨n, by omega, Nat.le_refl _, fun K => by rw [if_pos hc]⟩
    · exact ⟨k', hk', by omega, fun K => by rw [if_neg hc]⟩
  simp only [Option.bind_some, Bool.false_eq_true, if_false, en, eg, ek, eq]
  have val : ∀ n < 6, ∀ a : Nat, a < 2 ^ prs n → impl_ValidGraph.f (n : Int) (a : Int) = some true := fun n hn a ha => by
    have hp2 := pow_prs n hn
    rw [ValidGraph_eq n a (by omega) (by omega)]
    exact congrArg some ((show ∀ n : Nat, n < 6 → ∀ a : Nat, a < 2 ^ prs n → validG (n : Int) (a : Int) = true from by decide +kernel) n hn a ha)
  obtain ⟨f, hf, ef, _⟩ := opp_spec n hn e he
  have hk6 : k < 6 := by omega
  -- the graphs of size k
  generalize hA : gList k (fun e => isLeastB k 0 e) (2 ^ prs k) 0 = A
  have hpr := prs_le' k hk6
  have hlen : A.length ≤ 1024 := by rw [← hA]; have := gList_length k (fun e => isLeastB k 0 e) (2 ^ prs k) 0; omega
  have ag : ∀ K, 1100 ≤ K → impl_AllGraphs.f K k = some (A, 0) := fun K hK => by
    unfold impl_AllGraphs.f impl_sizeOk.f
    rw [in_eq4]
    have hl := leasts_eq (fun y0_0 y0_1 => impl_AllGraphs_1.f y0_0 y0_1) (fun _ => true) k 0 hk6 (by omega) (fun _ _ => rfl) K (by omega)
    rw [show ((0 : Nat) : Int) = 0 from rfl] at hl
    simp only [Option.bind_some, decide_eq_true (show (0 : Int) ≤ k ∧ (k : Int) ≤ 5 by omega), if_true, hl, Bool.true_and, hA]
  have op : ∀ K, 40 ≤ K → impl_OppositeGraph.f K n e = some ((n : Int), (f : Int), 0) := fun K hK => by
    unfold impl_OppositeGraph.f
    rw [val n hn e he]
    simp only [Option.bind_some, if_true, opposite_eq n e hn he K hK]
    rw [show Go.bits .xor .u32 (2 ^ prs n - 1 : Int) (e : Int) = f from ef]
  have hm : ∀ x ∈ A, ∃ h : Nat, x = ⟨k, h⟩ ∧ h < 2 ^ prs k := fun x hx => by
    rw [← hA] at hx
    obtain ⟨m, h1, _, h3, _⟩ := gList_ok k _ _ _ x hx
    exact ⟨m, h1, by omega⟩
  have hok := sets_ok n hn k hk6
  -- each set makes just one of them
  have total : (A.map (occN n k e)).sum = (setsL n k).length := by
    unfold occN
    rw [sum_swap (fun (x : S27) l => occB 0 k x.f1 e l) A (setsL n k)]
    refine sum_one _ _ fun l hl => ?_
    obtain ⟨b, hb, eb⟩ := onI_small k hk6 e (hok.2 l hl).1
    obtain ⟨c, hc, ec, hcl⟩ := least_least k hk6 b hb
    rw [← hA]
    refine Eq.trans (List.countP_congr (q := fun x => x.f1 == (c : Int)) fun x hx => ?_) ?_
    · obtain ⟨m, rfl, _, h3, h4⟩ := gList_ok k _ _ _ x hx
      have : leastE (m : Int) (leaves k k []) m = m := by
        have := least_is k 0 (m : Int)
        rw [h4, show firstI 0 = [] from rfl, Nat.sub_zero, beq_iff_eq] at this
        exact this
      unfold occB
      rw [show firstI 0 ++ l = l from rfl, eb, show firstI 0 = [] from rfl, Nat.sub_zero, ec, this]
      simp only [beq_iff_eq]
      exact ⟨fun h => h.symm, fun h => h.symm⟩
    · rw [count_one, if_pos ⟨by omega, by omega, hcl⟩]
  obtain ⟨p, hp, eo⟩ := A2Order_ok l1 s1 n hn 2000 (by omega)
  have lo := leaves_ok_s n hn 0 (by omega)
  rw [show firstI 0 = [] from rfl, Nat.sub_zero] at lo
  have opn : isOrd n p := lo p hp
  obtain ⟨l, hl, q, hq, e2⟩ := ((take_set n hn k hk).resolve_left (by omega)) p hp
  have hls := hok.2 l hl
  have oq : isOrd k q := by
    have := leaves_ok_s k hk6 0 (by omega)
    rw [show firstI 0 = [] from rfl, Nat.sub_zero] at this
    exact this q hq
  have hd : allDiff (wrap64 ((n : Int) - 1)) (p.take k) := by
    rw [show wrap64 ((n : Int) - 1) = (n : Int) - 1 from by unfold wrap64; omega, ← e2]
    exact comp_set hls.1 hls.2 oq.1 oq.2
  have htl : (p.take k).length = k := by rw [← e2, comp_len]; exact oq.1
  obtain ⟨b, hb, eb⟩ := onI_small k hk6 e htl
  have hind : impl_InducedOn.f n e (p.take k) = some ((k : Int), (b : Int), 0) := by
    unfold impl_InducedOn.f
    rw [val n hn e he]
    simp only [Option.bind_some, if_true, impl_different.f, decide_eq_true hd, impl_onT.eq n e (okList_diff (m := n) (by omega) (by omega) hd), eb, htl]
  have hcc := countCopies_nat n k hn hk6 e b hb (val n hn e he) (val k hk6 b hb) hkn
  have hpos : 0 < (setsL n k).countP (occB 0 k b e) := by
    rw [List.countP_pos_iff]
    refine ⟨l, hl, ?_⟩
    obtain ⟨c, hc, ec⟩ := onI_small k hk6 e hls.1
    rw [occ_iff k hk6 e b c hb hc ec]
    refine ⟨q, hq, ?_⟩
    have := onI_comp2 n k k hk6 e hls.1 hls.2 oq.1 oq.2
    rw [ec, e2, eb] at this
    exact this
  have eo' : ∀ K, 2000 ≤ K → spec_A2Order.f K l1 n = some p := fun K hK => LeO_ge (F := fun K => spec_A2Order.f K l1 n) (fun K => spec_A2Order.mono _ _ K) hK _ eo
  refine ⟨2000 + 1 + k + A.length + 1 + 1 + 1, ?_⟩
  rw [laws_FnCopies.j0, ag _ (by omega), op _ (by omega)]
  simp only [Option.bind_some, if_true, bne_self_eq_false]
  rw [laws_FnCopies.j1, if_neg (by simp)]
  have lp := copies_loop n k hn hk hkn e f he hf ef val l1 A (by omega) hm A.length 0 (2000 + 1 + k) 0 (by omega) (by omega) (by omega)
  rw [show ((0 : Nat) : Int) = 0 from rfl, Nat.zero_add, List.drop_zero, total] at lp
  rw [lp]
  have dp := copies_due l1 n n e (((setsL n k).length : Nat) : Int) k (by omega) k 0 (2000 + 1) 1 (by omega)
  rw [show ((0 : Nat) : Int) = 0 from rfl] at dp
  rw [dp, (due_is n hn k hk).resolve_left (by omega), laws_FnCopies.l1, if_neg (by omega), eo' _ (by omega)]
  simp only [Option.bind_some, Int.toNat_natCast]
  rw [if_pos (by omega), if_pos (by have := opn.1; omega), hind]
  simp only [Option.bind_some]
  rw [hcc]
  simp only [Option.bind_some, if_true]
  rw [decide_eq_true (by omega)]

end Go.Proofs.Ytcepbgffnneagaa.Q
end

section
namespace Go.Proofs.YtcepbgffnneagaaW.PrintWords
open Go Go.RowKit Go.ChangeShapes Go.WideShapes Go.ChangeAt Go.Deep
set_option linter.unusedVariables false
section
variable {H : Type} (enc : TypeId × Value → H) (P : Program) (W : World)
/-- Whatever reads as data of type t stands for a plain value. -/
def Opens {α : Type} (t : TypeId) (k : Kd α) (wf : α → Prop) : Prop :=
  ∀ (fuel : Nat) (cs : List Value) (x : DataW H × List MemPlace), DataW.trod enc P W 0 (fun _ => true) true fuel t cs = some x → ∃ a, k.K W a cs ∧ wf a
end
section
variable {H : Type} {enc : TypeId × Value → H} {P : Program} {W : World}
theorem Opens.int {t : TypeId} {k : IntKind} (ht : P.underlying t = some (.int k)) : Opens enc P W t (Kd.int k) (fun n => (Lit.int k n).wf = true) := by
  intro fuel cs x h
  obtain ⟨n, rfl, _, hw⟩ := DataW.trod_int ht h
  exact ⟨n, rfl, hw⟩
theorem Opens.bool {t : TypeId} (ht : P.underlying t = some .bool) : Opens enc P W t Kd.bool (fun _ => True) := by
  intro fuel cs x h
  obtain ⟨n, rfl, _⟩ := DataW.trod_bool ht h
  exact ⟨n, rfl, trivial⟩
theorem Opens.iso {α β : Type} {t : TypeId} {k : Kd α} {p : α → Prop} (f : β → α) (g : α → β) (hfg : ∀ a, f (g a) = a) (h : Opens enc P W t k p) : Opens enc P W t (Kd.iso k f) (fun b => p (f b)) := by
  intro fuel cs x hx
  obtain ⟨a, ka, wa⟩ := h fuel cs x hx
  exact ⟨g a, by show k.K W (f (g a)) cs; rw [hfg]; exact ka, by show p (f (g a)); rw [hfg]; exact wa⟩
theorem Opens.slice {α : Type} (z : α) {t e : TypeId} {k : Kd α} {p : α → Prop} (ht : P.underlying t = some (.slice e)) (hs : k.sz = P.cellsOf e) (h : Opens enc P W e k p) : Opens enc P W t (Kd.slice e k) (fun l => l.length < 9223372036854775808 ∧ ∀ a ∈ l, p a) := by
  haveI : Inhabited α := ⟨z⟩
  intro fuel cs x hx
  rcases open_slice ht hx with ⟨rfl, _⟩ | ⟨ad, len, cap, m, n, D, Pl, rfl, _, hl, hm, hmm, _, hel⟩
  · exact ⟨[], ⟨none, 0, rfl, Nat.le_refl _, rfl, by simp, fun h0 => absurd h0 (Nat.lt_irrefl 0)⟩, by simp, fun a ha => by cases ha⟩
  · have hlm : len ≤ m := by
      rw [hmm]; split
      · exact hl
      · exact Nat.le_refl _
    obtain ⟨F, hF⟩ := choose_lt (α := α) (n := len) (p := fun i a => p a ∧ ∃ cs', k.K W a cs' ∧ W.cells? 0 (ad.add (i * P.cellsOf e)) (P.cellsOf e) = some cs') (fun i hi => by
      obtain ⟨cs', h1, h2⟩ := hel i (by omega)
      obtain ⟨a, ka, wa⟩ := h n _ _ h2
      exact ⟨a, wa, cs', ka, h1⟩)
    refine ⟨(List.range len).map F, ⟨some ad, cap, by simp, by simpa using hl, by simp, by simp; unfold maxLen at hm; omega, fun _ => ⟨ad, rfl, fun j q hq => ?_⟩⟩, by simp; unfold maxLen at hm; omega, fun a ha => ?_⟩
    · obtain ⟨hj, rfl⟩ : j < len ∧ F j = q := by
        rw [List.getElem?_map] at hq
        rcases Nat.lt_or_ge j len with hj | hj
        · rw [List.getElem?_range hj] at hq; exact ⟨hj, by simpa using hq⟩
        · rw [List.getElem?_eq_none (by simpa using hj)] at hq; simp at hq
      obtain ⟨_, cs', ka, h1⟩ := hF j hj
      obtain ⟨_, hlen, hcell⟩ := World.cells?_some h1
      refine ⟨cs', k.K_len ka, ka, fun i u hu => ?_⟩
      have hi : i < P.cellsOf e := by rw [← hlen]; exact (List.getElem?_eq_some_iff.1 hu).1
      rw [hs, ← add_add, hcell i hi]; exact hu
    · obtain ⟨i, hi, rfl⟩ := List.mem_map.1 ha
      exact (hF i (List.mem_range.1 hi)).1
end
end Go.Proofs.YtcepbgffnneagaaW.PrintWords
end
