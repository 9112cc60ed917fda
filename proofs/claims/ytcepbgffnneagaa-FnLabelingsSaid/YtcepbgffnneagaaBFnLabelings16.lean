/- Contracts of Go functions and plain lemmas over what they compute; printed by the kit's print program or written by hand, joined. -/
import Derived.Test.YtcepbgffnneagaaBFnLabelings3
import Derived.Test.YtcepbgffnneagaaBFnLabelings5
import Derived.Test.YtcepbgffnneagaaBFnLabelings11
import Derived.Test.YtcepbgffnneagaaBFnLabelings7
import Derived.Test.YtcepbgffnneagaaBFnLabelings8
import Derived.Test.YtcepbgffnneagaaBFnLabelings9
import Derived.Test.YtcepbgffnneagaaBFnLabelings10
import Derived.Test.YtcepbgffnneagaaBFnLabelings12
import Derived.Test.YtcepbgffnneagaaBFnLabelings13
import Derived.Test.YtcepbgffnneagaaBFnLabelings14
import Derived.Test.YtcepbgffnneagaaBFnLabelings15
import Derived.Test.YtcepbgffnneagaaBFnLabelings6
import Derived.Test.YtcepbgffnneagaaBFnLabelings2
import Derived.WalkKit
import Derived.ProofKit
import Derived.OpenShut
import Derived.ChangeOld
import Derived.Deep.Slices
section
namespace Go.Proofs.Ytcepbgffnneagaa.Q
open Go.RowKit Go.Proofs.YtcepbgffnneagaaW.PrintWords Go.Proofs.YtcepbgffnneagaaW.PrintLast Go.Proofs.YtcepbgffnneagaaW.PrintMore
attribute [local go_sem] max2_int min2_int max_two min_two max_three min_three max_four min_four   -- for this text's walks alone
set_option linter.unusedVariables false
set_option linter.unusedSimpArgs false

theorem sList_mem (n s t B : Nat) (q : Nat → Bool) : ∀ (D hi : Nat) (x : S45), x ∈ sList n s t B q D hi → ∃ j : Nat, j < hi + D ∧ x = ⟨s, ⟨n, ((j * B + t : Nat) : Int)⟩⟩
  | 0, hi, x, h => by rw [sList] at h; cases h
  | D + 1, hi, x, h => by
    rw [sList] at h
    have ih := sList_mem n s t B q D (hi + 1) x
    split at h
    · rcases List.mem_cons.1 h with rfl | h
      · exact ⟨hi, by omega, rfl⟩
      · obtain ⟨j, h1, h2⟩ := ih h; exact ⟨j, by omega, h2⟩
    · obtain ⟨j, h1, h2⟩ := ih h; exact ⟨j, by omega, h2⟩
theorem flagsL_mem (n s t : Nat) (hn : n < 6) (hs : s < n + 1) (ht : t < 2 ^ prs s) (x : S45) (h : x ∈ flagsL n s t []) : ∃ e : Nat, x = ⟨s, ⟨n, e⟩⟩ ∧ e < 2 ^ prs n := by
  obtain ⟨j, h1, h2⟩ := sList_mem n s t _ _ _ _ x h
  refine ⟨_, h2, ?_⟩
  have hpm := prs_mono n hn s hs
  have hpw : 2 ^ (prs n - prs s) * 2 ^ prs s = 2 ^ prs n := by rw [← Nat.pow_add, show prs n - prs s + prs s = prs n from by omega]
  have : (j + 1) * 2 ^ prs s ≤ 2 ^ (prs n - prs s) * 2 ^ prs s := Nat.mul_le_mul_right _ (by omega)
  rw [Nat.succ_mul] at this
  omega
theorem validF_small : ∀ n : Nat, n < 5 → ∀ s : Nat, s < 4 → (n < s ∨ ∀ e : Nat, e < 2 ^ prs n → validF (s : Int) (n : Int) (e : Int) = true) := by decide +kernel
theorem valF (n s : Nat) (hn : n < 5) (h3 : s < 4) (hs : s ≤ n) (e : Nat) (he : e < 2 ^ prs n) : impl_ValidFlag.f (s : Int) (n : Int) (e : Int) = some true := by
  have hp2 := pow_prs n (by omega)
  rw [ValidFlag_eq s n e (by omega) (by omega), (validF_small n hn s h3).resolve_left (by omega) e he]
theorem labSum_append (A B : List (Int × Int)) (m x : Int) : labSum (A ++ B) m x = labSum B m (labSum A m x) := List.foldl_append
/-- The flags of one type. -/
theorem lab_l1 (n s : Nat) (hn : n < 5) (h3 : s < 4) (hs : s ≤ n) (e : Nat) (he : e < 2 ^ prs n) (B : Nat) (x0 x1 : List Int) (T : List S27) (j : Int) (A : List S45) (hA : A.length ≤ 1048576)
    (hx : ∀ f ∈ A, ∃ h : Nat, f = ⟨s, ⟨n, h⟩⟩ ∧ h < 2 ^ prs n) (h1 : ∀ f ∈ A, 1 ≤ (labP n s f).2) : ∀ (d i K : Nat) (x : Int), i + d = A.length → B + 2 * d + 1 ≤ K →
    (∀ K', B ≤ K' → laws_FnLabelings.l0 K' x0 x1 n s T (labSum ((A.drop i).map (labP n s)) (leastE e (leaves n n []) e) x) (wrap64 (j + 1)) n e = some true) →
    laws_FnLabelings.l1 K x0 x1 n s T x j A i n e = some true
  | 0, i, K, x, hd, hK, hend => by
    obtain ⟨K, rfl⟩ : ∃ q, K = q + 1 := ⟨K - 1, by omega⟩
    rw [laws_FnLabelings.l1, if_neg (by omega)]
    have := hend K (by omega)
    rw [List.drop_eq_nil_of_le (by omega)] at this
    exact this
  | d + 1, i, K, x, hd, hK, hend => by
    obtain ⟨K, rfl⟩ : ∃ q, K = q + 2 := ⟨K - 2, by omega⟩
    have hi : i < A.length := by omega
    have hm := List.getElem_mem hi
    obtain ⟨h, ef, hh⟩ := hx _ hm
    have hc := h1 _ hm
    have rdf : rd_T45 A (i : Int) = ⟨s, ⟨n, h⟩⟩ := by unfold rd_T45; rw [getD_of_lt A _ hi, ef]
    have c1 : (i : Int) < (A.length : Int) := Int.ofNat_lt.2 hi
    have c2 : (0 : Int) ≤ (i : Int) := Int.natCast_nonneg i
    have val : ∀ a : Nat, a < 2 ^ prs n → impl_ValidGraph.f (n : Int) (a : Int) = some true := fun a ha => by
      have hp2 := pow_prs n (by omega)
      rw [ValidGraph_eq n a (by omega) (by omega), validG_small n (by omega) a ha]
    have al : impl_AreAlike.f (n : Int) (h : Int) (n : Int) (e : Int) = some (leastE h (leaves n n []) h == leastE e (leaves n n []) e, 0) := by
      have := alike_eq n 0 (by omega) (by omega) h e hh he
      simp only [show ((0 : Nat) : Int) = 0 from rfl, show firstI 0 = [] from rfl, Nat.sub_zero] at this
      unfold impl_AreAlike.f
      rw [val h hh, val e he]
      simp only [Option.bind_some, if_true, this]
    have cl : impl_CountLabelings.f (s : Int) (n : Int) (h : Int) = some (labE n s h (leaves n s []) 0, 0) := by
      unfold impl_CountLabelings.f
      rw [valF n s hn h3 hs h hh]
      simp only [Option.bind_some, if_true, labelings_eq n s (by omega) (by omega) h3 h hh]
    have hP : labP n s A[i] = (leastE h (leaves n n []) h, labE n s h (leaves n s []) 0) := by rw [ef]; rfl
    rw [hP] at hc
    have step := fun x hend => lab_l1 n s hn h3 hs e he B x0 x1 T j A hA hx h1 d (i + 1) K x (by omega) (by omega) hend
    have hend2 := hend
    rw [List.drop_eq_getElem_cons hi, List.map_cons, hP] at hend2
    rw [laws_FnLabelings.l1, if_pos c1, if_pos c2]
    simp only [rdf, al, cl, Option.bind_some, if_true]
    rw [decide_eq_false (Int.not_lt.2 hc), laws_FnLabelings.j3, if_neg (by simp), w64_succ (Nat.lt_of_lt_of_le hi (Nat.le_trans hA (by decide)))]
    by_cases hb : (leastE (h : Int) (leaves n n []) h == leastE (e : Int) (leaves n n []) e) = true
    · rw [if_pos hb]
      refine step _ fun K' hK' => ?_
      have := hend2 K' hK'
      unfold labSum at this ⊢
      rw [List.foldl_cons] at this
      simp only [hb, if_true] at this
      exact this
    · rw [if_neg hb]
      refine step _ fun K' hK' => ?_
      have := hend2 K' hK'
      unfold labSum at this ⊢
      rw [List.foldl_cons] at this
      simp only [hb, Bool.false_eq_true, if_false] at this
      exact this
theorem forb_nil : forb [] = 0 := by decide
theorem okGs_nil : okGs [] := fun x hx => by cases hx
theorem flags_len (n s t : Nat) (hn : n < 5) : (flagsL n s t []).length ≤ 64 := by
  have h1 := sList_length n s t (2 ^ prs s) (fun e => isLeastB n s e && !(List.any [] (partB n e))) (2 ^ (prs n - prs s)) 0
  have h2 : 2 ^ (prs n - prs s) ≤ 2 ^ prs n := Nat.pow_le_pow_right (by omega) (by omega)
  have h4 : 2 ^ prs n ≤ 64 := (show ∀ n : Nat, n < 5 → 2 ^ prs n ≤ 64 from by decide) n hn
  unfold flagsL
  exact Nat.le_trans h1 (Nat.le_trans h2 h4)
theorem allFlags_nil (n s t : Nat) (hn : n < 5) (h3 : s < 4) (hs : s ≤ n) (ht : t < 2 ^ prs s) (k : Nat) (hk : 4000 ≤ k) : impl_AllFlags.f k s t n [] = some (flagsL n s t [], 0) := by
  have hi := allFlagsI_eq n s t (by omega) (by omega) h3 ht [] okGs_nil (by simp) (fun x hx => by cases hx) k (by omega)
  have hlen := flags_len n s t hn
  have hp := pow_prs s (by omega)
  unfold impl_AllFlags.f
  rw [ValidGraph_eq s t (by omega) (by omega), validG_small s (by omega) t ht]
  simp only [Option.bind_some, if_true]
  rw [forbiddenOk_eq [] (by simp) okGs_nil k (by simp; omega), forb_nil]
  simp only [Option.bind_some, if_true, impl_spanOk.f]
  rw [if_pos (by omega), in_eq4, decide_eq_true (show (s : Int) ≤ (n : Int) ∧ (n : Int) ≤ 5 by omega)]
  simp only [Option.bind_some, if_true]
  rw [hi, decide_eq_true (by omega)]
  simp
theorem allTypes_nil (s : Nat) (h3 : s < 4) (k : Nat) (hk : 4000 ≤ k) : impl_AllTypes.f k s [] = some (typesL s [], 0) := by
  have hm : s < 6 := by omega
  have hp := prs_le' s hm
  have hb : impl_pairs.f (s : Int) = some ((prs s : Nat) : Int) := (show ∀ n : Nat, n < 6 → impl_pairs.f (n : Int) = some ((prs n : Nat) : Int) from by decide +kernel) s hm
  have hsh : shl .u32 1 ((prs s : Nat) : Int) = ((2 ^ prs s : Nat) : Int) := (show ∀ n : Nat, n < 6 → shl .u32 1 ((prs n : Nat) : Int) = ((2 ^ prs n : Nat) : Int) from by decide +kernel) s hm
  unfold impl_AllTypes.f
  rw [forbiddenOk_eq [] (by simp) okGs_nil k (by simp; omega), forb_nil]
  simp only [Option.bind_some, if_true]
  rw [in_eq4]
  simp only [Option.bind_some, decide_eq_true (show (0 : Int) ≤ (s : Int) ∧ (s : Int) ≤ 3 by omega), if_true]
  rw [hb]
  simp only [Option.bind_some]
  rw [if_pos (by omega), hsh]
  have := typesI_loop s hm [] okGs_nil (by simp) (fun x hx => by cases hx) (2 ^ prs s) 0 k [] (Nat.zero_add _) (by simp) (by omega)
  rw [show ((0 : Nat) : Int) = 0 from rfl] at this
  exact this
theorem gList_true (n : Nat) : ∀ (d e : Nat), (gList n (fun _ => true) d e).length = d ∧ ∀ i : Nat, i < d → (gList n (fun _ => true) d e)[i]? = some ⟨(n : Int), ((e + i : Nat) : Int)⟩
  | 0, e => ⟨rfl, fun i h => absurd h (Nat.not_lt_zero i)⟩
  | d + 1, e => by
    obtain ⟨h1, h2⟩ := gList_true n d (e + 1)
    rw [gList, if_pos rfl]
    refine ⟨by rw [List.length_cons, h1], fun i h => ?_⟩
    cases i with
    | zero => rfl
    | succ i =>
      rw [List.getElem?_cons_succ, h2 i (by omega)]
      congr 2
      show (((e + 1 + i : Nat) : Int)) = ((e + (i + 1) : Nat) : Int)
      congr 1; omega
theorem lab_types (s : Nat) : (typesL s []).length = 2 ^ prs s ∧ ∀ i : Nat, i < 2 ^ prs s → (typesL s [])[i]? = some ⟨(s : Int), (i : Int)⟩ := by
  have h := gList_true s (2 ^ prs s) 0
  simp only [Nat.zero_add] at h
  exact h
theorem ar1 {B d K : Nat} (hK : B + 200 * (d + 1) + 1 ≤ K) (_hB : 4000 ≤ B) : ∃ q, K = q + 1 ∧ 4000 ≤ q ∧ ∀ a : Nat, a ≤ 64 → B + 200 * d + 1 + 2 * a + 1 ≤ q := ⟨K - 1, by omega, by omega, fun a ha => by omega⟩
theorem ar3 {j d P : Nat} (h : j + (d + 1) = P) : j + 1 + d = P ∧ j < P := by omega
theorem ar0 {B K : Nat} (hK : B + 200 * 0 + 1 ≤ K) : ∃ q, K = q + 1 ∧ B ≤ q := ⟨K - 1, by omega, by omega⟩
/-- All types. -/
theorem lab_l0 (n s : Nat) (hn : n < 5) (h3 : s < 4) (hs : s ≤ n) (e : Nat) (he : e < 2 ^ prs n) (B : Nat) (hB : 4000 ≤ B) (x0 x1 : List Int) (h1 : ∀ p ∈ labT n s, 1 ≤ p.2) : ∀ (d j K : Nat) (x : Int), j + d = 2 ^ prs s → B + 200 * d + 1 ≤ K →
    (∀ K', B ≤ K' → laws_FnLabelings.l2 K' x0 x1 n s (labSum ((((List.range (2 ^ prs s)).drop j).flatMap fun t => flagsL n s t []).map (labP n s)) (leastE e (leaves n n []) e) x) 1 0 n e = some true) →
    laws_FnLabelings.l0 K x0 x1 n s (typesL s []) x j n e = some true
  | 0, j, K, x, hd, hK, hend => by
    obtain ⟨K, rfl, hK2⟩ := ar0 hK
    have hj : j = 2 ^ prs s := hd
    subst hj
    rw [laws_FnLabelings.l0, if_neg (by rw [(lab_types s).1]; exact Int.lt_irrefl _)]
    have := hend K hK2
    rw [List.drop_eq_nil_of_le (Nat.le_of_eq List.length_range)] at this
    exact this
  | d + 1, j, K, x, hd, hK, hend => by
    obtain ⟨K, rfl, hKK, hK5⟩ := ar1 hK hB
    obtain ⟨hjd, hj⟩ := ar3 hd
    obtain ⟨hl, hg⟩ := lab_types s
    have hj2 : j < (List.range (2 ^ prs s)).length := by rw [List.length_range]; exact hj
    have hi : j < (typesL s []).length := by rw [hl]; exact hj
    have hel : (typesL s [])[j] = ⟨(s : Int), (j : Int)⟩ := by
      have := hg j hj
      rw [List.getElem?_eq_getElem hi] at this
      exact Option.some.inj this
    have hp8 : 2 ^ prs s ≤ 8 := (show ∀ n : Nat, n < 4 → 2 ^ prs n ≤ 8 from by decide) s h3
    have hw : wrap64 ((j : Int) + 1) = ((j + 1 : Nat) : Int) := w64_succ (Nat.lt_of_lt_of_le hj (Nat.le_trans hp8 (by decide)))
    have c1 : (j : Int) < ((typesL s []).length : Int) := Int.ofNat_lt.2 hi
    have c2 : (0 : Int) ≤ (j : Int) := Int.natCast_nonneg j
    have hlen := flags_len n s j hn
    rw [laws_FnLabelings.l0, if_pos c1, if_pos c2]
    simp only [rdG_nat (typesL s []) hi, hel]
    rw [allFlags_nil n s j hn h3 hs hj K hKK]
    simp only [Option.bind_some, if_true]
    have := lab_l1 n s hn h3 hs e he (B + 200 * d + 1) x0 x1 (typesL s []) j (flagsL n s j []) (Nat.le_trans hlen (by decide)) (fun f hf => flagsL_mem n s j (Nat.lt_trans hn (by decide)) (Nat.lt_succ_of_le hs) hj f hf) (fun f hf => h1 _ (List.mem_map_of_mem (List.mem_flatMap.2 ⟨j, List.mem_range.2 hj, hf⟩))) (flagsL n s j []).length 0 K x (Nat.zero_add _) (hK5 _ hlen) (fun K' hK' => by
      rw [hw, List.drop_zero]
      refine lab_l0 n s hn h3 hs e he B hB x0 x1 h1 d (j + 1) K' _ hjd hK' fun K2 hK2 => ?_
      have := hend K2 hK2
      rw [List.drop_eq_getElem_cons hj2, List.flatMap_cons, List.map_append, labSum_append, List.getElem_range] at this
      exact this)
    rw [show ((0 : Nat) : Int) = 0 from rfl] at this
    exact this
theorem lab_due (x0 x1 : List Int) (n e0 e1 total : Int) (s : Nat) (hs : s < 100) : ∀ (d i K : Nat) (x : Int), i + d = s → laws_FnLabelings.l2 (K + d) x0 x1 n s total x i e0 e1 = laws_FnLabelings.l2 K x0 x1 n s total (dueG n d i x) s e0 e1
  | 0, i, K, x, h => by
    obtain rfl : i = s := by omega
    rfl
  | d + 1, i, K, x, h => by
    have hw : wrap64 ((i : Int) + 1) = ((i + 1 : Nat) : Int) := by unfold wrap64; omega
    rw [show K + (d + 1) = (K + d) + 1 from by omega, laws_FnLabelings.l2, if_pos (by omega), hw, lab_due x0 x1 n e0 e1 total s hs d (i + 1) K _ (by omega)]
    rfl
theorem lab_inv (s : Nat) (hs : s < 100) (t : List Int) (ot : isOrd s t) (a b c1 c2 c3 y0 y1 y2 z0 z1 z2 v0 v1 : Int) : ∀ (d i K : Nat) (X : List Int), i + d = s → X.length = s →
    laws_FnLabelings.l3 (K + d) s a b c1 c2 c3 t X i y0 y1 y2 z0 z1 z2 v0 v1 = laws_FnLabelings.l3 K s a b c1 c2 c3 t (invG t d i X) s y0 y1 y2 z0 z1 z2 v0 v1
  | 0, i, K, X, h, hX => by
    obtain rfl : i = s := by omega
    rfl
  | d + 1, i, K, X, h, hX => by
    obtain ⟨q, hq, eq⟩ := ot.at i (by omega)
    have hl := ot.1
    rw [show K + (d + 1) = (K + d) + 1 from by omega, laws_FnLabelings.l3, if_pos (by omega), if_pos (by omega), if_pos (by omega), if_pos (by omega), if_pos (by omega), w64_succ (by omega), lab_inv s hs t ot a b c1 c2 c3 y0 y1 y2 z0 z1 z2 v0 v1 d (i + 1) K _ (by omega) (by rw [List.length_set]; exact hX)]
    rfl
theorem turn_eq (n s : Nat) (hn : n < 5) (h3 : s < 4) (hs : s ≤ n) (b : Nat) (hb : b < 2 ^ prs n) {t : List Int} (ht : t ∈ leaves s s []) (k : Nat) (hk : 100 ≤ k) : ∃ u : Nat, u < 2 ^ prs n ∧ turnE n s b t = u ∧ impl_TurnLabels.f k s n b t = some ((s : Int), (n : Int), (u : Int), 0) := by
  obtain ⟨k, rfl⟩ : ∃ q, k = q + 1 := ⟨k - 1, by omega⟩
  have ot : isOrd s t := by
    have := leaves_ok_s s (by omega) 0 (by omega)
    rw [show firstI 0 = [] from rfl, Nat.sub_zero] at this
    exact this t ht
  have hd : allDiff ((n : Int) - 1) t := ⟨ot.2.1, fun x hx => by have := ot.2.2 x hx; omega⟩
  have hdw : allDiff (wrap64 ((s : Int) - 1)) t := by
    rw [show wrap64 ((s : Int) - 1) = (s : Int) - 1 from by unfold wrap64; omega]; exact ot.2
  obtain ⟨c, hc, ec, _, hf⟩ := lab_flagI n s (by omega) (by omega) h3 b hb (set_mem ot.1 hd)
  obtain ⟨u, hu, eu⟩ := turn_nat n s (by omega) (by omega) c hc
  refine ⟨u, hu, by unfold turnE; rw [ec, eu], ?_⟩
  have hl := ot.1
  unfold impl_TurnLabels.f
  rw [valF n s hn h3 hs b hb]
  simp only [Option.bind_some, if_true]
  rw [if_pos (by omega), impl_different.f, decide_eq_true hdw]
  simp only [Option.bind_some, Bool.not_true]
  rw [impl_TurnLabels.j0, if_neg (by simp), hf k (by omega)]
  simp only [Option.bind_some, impl_Flag_least.f, least_eq n s (by omega) (by omega) c (fun l hl => (leaves_ok_s n (by omega) s (by omega) l hl).2), eu]
theorem FnLabelings_pure (l0 l1 : List Int) (h0 : l0.length < 9223372036854775808 ∧ ∀ x ∈ l0, (Lit.int .u8 x).wf = true) (h1 : l1.length < 9223372036854775808 ∧ ∀ x ∈ l1, (Lit.int .u8 x).wf = true) : ∃ k, laws_FnLabelings.f k l0 l1 = some true := by
  unfold laws_FnLabelings.f
  rcases a2Long_cases h0 h1 with h | ⟨h, s0, s1⟩
  · exact ⟨0, by rw [h]; rfl⟩
  rw [h]
  obtain ⟨n, hn, en⟩ := a2At_ok s1 0 5 (by omega)
  obtain ⟨k', hk', ek⟩ := a2At_ok s1 1 4 (by omega)
  have hn6 : n < 6 := by omega
  obtain ⟨e, he, eg⟩ := A2Graph_ok l0 s0 n hn6
  simp only [show ((0 : Nat) : Int) = 0 from rfl, show ((1 : Nat) : Int) = 1 from rfl, show ((5 : Nat) : Int) = 5 from rfl, show ((4 : Nat) : Int) = 4 from rfl] at en ek
  obtain ⟨s, h3, hs, eq⟩ : ∃ s : Nat, s < 4 ∧ s ≤ n ∧ ∀ K, (if (k' : Int) > n then laws_FnLabelings.j0 K l0 l1 n n n e else laws_FnLabelings.j0 K l0 l1 n k' n e) = laws_FnLabelings.j0 K l0 l1 n s n e := by
    by_cases hc : (k' : Int) > n
    · exact ⟨n, by omega, Nat.le_refl _, fun K => by rw [if_pos hc]⟩
    · exact ⟨k', hk', by omega, fun K => by rw [if_neg hc]⟩
  simp only [Option.bind_some, Bool.false_eq_true, if_false, en, eg, ek, eq]
  have hs6 : s < 6 := by omega
  have val : ∀ a : Nat, a < 2 ^ prs n → impl_ValidGraph.f (n : Int) (a : Int) = some true := fun a ha => by
    have hp2 := pow_prs n hn6
    rw [ValidGraph_eq n a (by omega) (by omega), validG_small n hn6 a ha]
  -- all lists of labels
  have hall := (lab_all n hn s h3).resolve_left (by omega)
  unfold labOk at hall
  rw [Bool.and_eq_true, List.all_eq_true, List.all_eq_true] at hall
  obtain ⟨hpos, hsum⟩ := hall
  obtain ⟨m, hm, em, hml⟩ := least_least n hn6 e he
  have htot : labSum (labT n s) (leastE e (leaves n n []) e) 0 = dueG n s 0 1 := by
    have := hsum m (List.mem_range.2 hm)
    rw [hml] at this
    rw [em]
    simpa using this
  -- the flag of some labels
  obtain ⟨p, hp, eo⟩ := A2Order_ok l1 s1 n hn6 2000 (by omega)
  obtain ⟨t, ht, et⟩ := A2Order_ok l0 s0 s hs6 2000 (by omega)
  have eo' : ∀ K, 2000 ≤ K → spec_A2Order.f K l1 n = some p := fun K hK => LeO_ge (F := fun K => spec_A2Order.f K l1 n) (fun K => spec_A2Order.mono _ _ K) hK _ eo
  have et' : ∀ K, 2000 ≤ K → spec_A2Order.f K l0 s = some t := fun K hK => LeO_ge (F := fun K => spec_A2Order.f K l0 s) (fun K => spec_A2Order.mono _ _ K) hK _ et
  have ordL : ∀ n, n < 6 → ∀ p ∈ leaves n n [], isOrd n p := fun n hn p hp => by
    have := leaves_ok_s n hn 0 (by omega)
    rw [show firstI 0 = [] from rfl, Nat.sub_zero] at this
    exact this p hp
  have op : isOrd n p := ordL n hn6 p hp
  have ot : isOrd s t := ordL s hs6 t ht
  have hpl := op.1
  have hlen : (p.take s).length = s := by rw [List.length_take]; omega
  have hd : allDiff ((n : Int) - 1) (p.take s) := ⟨op.2.1.sublist (List.take_sublist s p), fun x hx => op.2.2 x (List.mem_of_mem_take hx)⟩
  have hdw : allDiff (wrap64 ((n : Int) - 1)) (p.take s) := by
    rw [show wrap64 ((n : Int) - 1) = (n : Int) - 1 from by unfold wrap64; omega]; exact hd
  obtain ⟨b, hb, eb, oq, hfo⟩ := lab_flagI n s hn6 (by omega) h3 e he (set_mem hlen hd)
  have hflag : ∀ K, 60 ≤ K → impl_FlagOf.f K n e (p.take s) = some ((s : Int), (n : Int), (b : Int), 0) := fun K hK => by
    unfold impl_FlagOf.f
    rw [val e he]
    simp only [Option.bind_some, if_true]
    rw [if_neg (by omega), impl_different.f, decide_eq_true hdw]
    simp only [Option.bind_some, if_true, hfo K hK]
  have hq : addRest (p.take s) n 0 (p.take s) ∈ leaves n n [] := set_mem oq.1 oq.2
  have hsame := least_of_on n hn6 e b he hb hq eb
  have hforget : impl_ForgetLabels.f (s : Int) (n : Int) (b : Int) 0 = some (0, (n : Int), (m : Int), 0) := by
    have hle := least_eq n 0 hn6 (by omega) b (fun l hl => (leaves_ok_s n hn6 0 (by omega) l hl).2)
    simp only [show ((0 : Nat) : Int) = 0 from rfl, show firstI 0 = [] from rfl, Nat.sub_zero] at hle
    unfold impl_ForgetLabels.f
    rw [valF n s hn h3 hs b hb]
    simp only [Option.bind_some, if_true]
    rw [in_eq4, decide_eq_true (show (0 : Int) ≤ 0 ∧ (0 : Int) ≤ (s : Int) by omega)]
    simp only [Option.bind_some, if_true, impl_Flag_least.f, hle, hsame, em]
  have hleast : impl_LeastGraph.f (n : Int) (e : Int) = some ((n : Int), (m : Int), 0) := by
    have hle := least_eq n 0 hn6 (by omega) e (fun l hl => (leaves_ok_s n hn6 0 (by omega) l hl).2)
    simp only [show ((0 : Nat) : Int) = 0 from rfl, show firstI 0 = [] from rfl, Nat.sub_zero] at hle
    unfold impl_LeastGraph.f
    rw [val e he]
    simp only [Option.bind_some, if_true, hle, em]
  have hplain : ∀ K, 60 ≤ K → impl_PlainFlag.f K (n : Int) (m : Int) = some (0, (n : Int), (m : Int), 0) := fun K hK => by
    have hd0 : allDiff (wrap64 ((n : Int) - 1)) [] := by simp [allDiff]
    have h := flagOf_impl m (n := n) (by omega) (by omega) hd0 K hK
    have hpa := plain_all n hn6
    unfold impl_PlainFlag.f impl_FlagOf.f
    rw [val m hm]
    simp only [Option.bind_some, if_true, List.length_nil]
    rw [if_neg (by omega), impl_different.f, decide_eq_true hd0]
    simp only [Option.bind_some, if_true, h, Int.toNat_natCast, hpa.1, hpa.2 m hm]
    rfl
  have hown : impl_LeastFlag.f (s : Int) (n : Int) (b : Int) = some ((s : Int), (n : Int), leastE b (leaves n (n - s) (firstI s)) b, 0) := by
    have hle := least_eq n s hn6 (by omega) b (fun l hl => (leaves_ok_s n hn6 s (by omega) l hl).2)
    unfold impl_LeastFlag.f
    rw [valF n s hn h3 hs b hb]
    simp only [Option.bind_some, if_true, impl_Flag_least.f, hle]
  obtain ⟨u, hu, eu, htu⟩ := turn_eq n s hn h3 hs b hb ht 100 (by omega)
  have hinv := inv_all s h3 t ht
  obtain ⟨v, hv, ev, htv⟩ := turn_eq n s hn h3 hs u hu hinv 100 (by omega)
  have htu' : ∀ K, 100 ≤ K → impl_TurnLabels.f K s n b t = some ((s : Int), (n : Int), (u : Int), 0) := fun K hK => LeO_ge (F := fun K => impl_TurnLabels.f K s n b t) (fun K => impl_TurnLabels.mono _ _ _ _ K) hK _ htu
  have htv' : ∀ K, 100 ≤ K → impl_TurnLabels.f K s n u (invG t s 0 (List.replicate s 0)) = some ((s : Int), (n : Int), (v : Int), 0) := fun K hK => LeO_ge (F := fun K => impl_TurnLabels.f K s n u (invG t s 0 (List.replicate s 0))) (fun K => impl_TurnLabels.mono _ _ _ _ K) hK _ htv
  have hback := (turn_back n hn s h3).resolve_left (by omega) t ht b hb
  rw [eu, ev] at hback
  have hp8 : 2 ^ prs s ≤ 8 := (show ∀ n : Nat, n < 4 → 2 ^ prs n ≤ 8 from by decide) s h3
  refine ⟨20000 + 1, ?_⟩
  rw [laws_FnLabelings.j0, allTypes_nil s h3 20000 (by omega)]
  simp only [Option.bind_some, if_true]
  have main := lab_l0 n s hn h3 hs e he 5000 (by omega) l0 l1 (fun p hp => by have := hpos p hp; simpa using this) (2 ^ prs s) 0 20000 0 (Nat.zero_add _) (by omega) (fun K hK => ?_)
  · rw [show ((0 : Nat) : Int) = 0 from rfl] at main
    exact main
  rw [List.drop_zero]
  show laws_FnLabelings.l2 K l0 l1 n s (labSum (labT n s) _ 0) 1 0 n e = some true
  rw [htot]
  obtain ⟨K, rfl⟩ : ∃ q, K = q + s + 1 + s + 1 := ⟨K - s - s - 2, by omega⟩
  have dp := lab_due l0 l1 n n e (dueG n s 0 1) s (by omega) s 0 (K + s + 1 + 1) 1 (Nat.zero_add _)
  rw [show ((0 : Nat) : Int) = 0 from rfl] at dp
  rw [show K + s + 1 + s + 1 = K + s + 1 + 1 + s from by omega, dp, laws_FnLabelings.l2, if_neg (by omega), eo' _ (by omega)]
  simp only [Option.bind_some, Int.toNat_natCast]
  rw [if_pos (by omega), if_pos (by omega), hflag _ (by omega)]
  simp only [Option.bind_some]
  rw [hforget, hleast]
  simp only [Option.bind_some]
  rw [et' _ (by omega)]
  simp only [Option.bind_some]
  rw [if_pos (by omega)]
  have li := lab_inv s (by omega) t ot (dueG n s 0 1) (dueG n s 0 1) 0 0 0 s n b 0 n m n m s 0 (K + 1) (List.replicate s 0) (Nat.zero_add _) (by rw [List.length_replicate])
  rw [show ((0 : Nat) : Int) = 0 from rfl] at li
  rw [show K + s + 1 = K + 1 + s from by omega, li, laws_FnLabelings.l3, if_neg (by omega), htu' _ (by omega)]
  simp only [Option.bind_some]
  rw [htv' _ (by omega), hown]
  simp only [Option.bind_some]
  rw [hplain _ (by omega)]
  simp [hback]

end Go.Proofs.Ytcepbgffnneagaa.Q
end

section
namespace Go.Proofs.YtcepbgffnneagaaW.PrintWords
open Go Go.RowKit Go.ChangeShapes Go.WideShapes Go.ChangeAt Go.Deep
set_option linter.unusedVariables false
section
variable {H : Type} (enc : TypeId × Value → H) (P : Program) (W : World)
/-- Whatever reads as data of type t stands for a plain value. -/
def Opens {α : Type} (t : TypeId) (k : Kd α) (wf : α → Prop) : Prop :=
  ∀ (fuel : Nat) (cs : List Value) (x : DataW H × List MemPlace), DataW.trod enc P W 0 (fun _ => true) true fuel t cs = some x → ∃ a, k.K W a cs ∧ wf a
end
section
variable {H : Type} {enc : TypeId × Value → H} {P : Program} {W : World}
theorem Opens.int {t : TypeId} {k : IntKind} (ht : P.underlying t = some (.int k)) : Opens enc P W t (Kd.int k) (fun n => (Lit.int k n).wf = true) := by
  intro fuel cs x h
  obtain ⟨n, rfl, _, hw⟩ := DataW.trod_int ht h
  exact ⟨n, rfl, hw⟩
theorem Opens.bool {t : TypeId} (ht : P.underlying t = some .bool) : Opens enc P W t Kd.bool (fun _ => True) := by
  intro fuel cs x h
  obtain ⟨n, rfl, _⟩ := DataW.trod_bool ht h
  exact ⟨n, rfl, trivial⟩
theorem Opens.iso {α β : Type} {t : TypeId} {k : Kd α} {p : α → Prop} (f : β → α) (g : α → β) (hfg : ∀ a, f (g a) = a) (h : Opens enc P W t k p) : Opens enc P W t (Kd.iso k f) (fun b => p (f b)) := by
  intro fuel cs x hx
  obtain ⟨a, ka, wa⟩ := h fuel cs x hx
  exact ⟨g a, by show k.K W (f (g a)) cs; rw [hfg]; exact ka, by show p (f (g a)); rw [hfg]; exact wa⟩
theorem Opens.slice {α : Type} (z : α) {t e : TypeId} {k : Kd α} {p : α → Prop} (ht : P.underlying t = some (.slice e)) (hs : k.sz = P.cellsOf e) (h : Opens enc P W e k p) : Opens enc P W t (Kd.slice e k) (fun l => l.length < 9223372036854775808 ∧ ∀ a ∈ l, p a) := by
  haveI : Inhabited α := ⟨z⟩
  intro fuel cs x hx
  rcases open_slice ht hx with ⟨rfl, _⟩ | ⟨ad, len, cap, m, n, D, Pl, rfl, _, hl, hm, hmm, _, hel⟩
  · exact ⟨[], ⟨none, 0, rfl, Nat.le_refl _, rfl, by simp, fun h0 => absurd h0 (Nat.lt_irrefl 0)⟩, by simp, fun a ha => by cases ha⟩
  · have hlm : len ≤ m := by
      rw [hmm]; split
      · exact hl
      · exact Nat.le_refl _
    obtain ⟨F, hF⟩ := choose_lt (α := α) (n := len) (p := fun i a => p a ∧ ∃ cs', k.K W a cs' ∧ W.cells? 0 (ad.add (i * P.cellsOf e)) (P.cellsOf e) = some cs') (fun i hi => by
      obtain ⟨cs', h1, h2⟩ := hel i (by omega)
      obtain ⟨a, ka, wa⟩ := h n _ _ h2
      exact ⟨a, wa, cs', ka, h1⟩)
    refine ⟨(List.range len).map F, ⟨some ad, cap, by simp, by simpa using hl, by simp, by simp; unfold maxLen at hm; omega, fun _ => ⟨ad, rfl, fun j q hq => ?_⟩⟩, by simp; unfold maxLen at hm; omega, fun a ha => ?_⟩
    · obtain ⟨hj, rfl⟩ : j < len ∧ F j = q := by
        rw [List.getElem?_map] at hq
        rcases Nat.lt_or_ge j len with hj | hj
        · rw [List.getElem?_range hj] at hq; exact ⟨hj, by simpa using hq⟩
        · rw [List.getElem?_eq_none (by simpa using hj)] at hq; simp at hq
      obtain ⟨_, cs', ka, h1⟩ := hF j hj
      obtain ⟨_, hlen, hcell⟩ := World.cells?_some h1
      refine ⟨cs', k.K_len ka, ka, fun i u hu => ?_⟩
      have hi : i < P.cellsOf e := by rw [← hlen]; exact (List.getElem?_eq_some_iff.1 hu).1
      rw [hs, ← add_add, hcell i hi]; exact hu
    · obtain ⟨i, hi, rfl⟩ := List.mem_map.1 ha
      exact (hF i (List.mem_range.1 hi)).1
end
end Go.Proofs.YtcepbgffnneagaaW.PrintWords
end
