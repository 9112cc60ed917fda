/- Contracts of Go functions and plain lemmas over what they compute; printed by the kit's print program or written by hand, joined. -/
import Derived.Test.YtcepbgffnneagaaBFnCopies2
import Derived.Maps.OwnOps
import Derived.Maps.Views
import Derived.ArgAppend
import Derived.Test.YtcepbgffnneagaaProg
import Derived.Below
import Derived.Deep.Draws
import Derived.Deep.AppendLies
import Derived.Maps.AppendAt
import Derived.OwnWalk
import Derived.Laws.BytesArg
import Derived.Laws.MakeOwn
import Derived.Laws.OwnMore
import Derived.Deep.OwnRows
import Derived.Tactics
import Derived.Lib.ConvBytes
import Derived.Laws.Slices
import Derived.WalkKit
import Derived.KernelRfl
import Derived.RowKit3
import Derived.Deep.LoopGhost
import Derived.Deep.QuietTactic
import Derived.BigQuiet
import Derived.WideLaws
import Derived.Deep.DeepCutAuto
import Derived.Deep.CutBlock
import Derived.Deep.RegionHeld3
import Derived.Laws.Rows
import Derived.Lib.AppendStr
import Derived.Laws.IdiomCopy
import Derived.OrdersHeld
import Derived.Laws.BitsLemmas
import Derived.RowKit
import Derived.Test.YtcepbgffnneagaaBFnCopies1
section
namespace Go.Proofs.YtcepbgffnneagaaW.PrintWords
open Go Go.RowKit
set_option linter.unusedVariables false
open Classical in
/-- What any fuel gives. -/
noncomputable def tot {α : Type} (F : Nat → Option α) : Option α := if h : ∃ r k, F k = some r then some h.choose else none
theorem tot_get {α : Type} {F : Nat → Option α} {r : α} (h : tot F = some r) : ∃ k, F k = some r := by
  unfold tot at h
  split at h
  · next hx => obtain ⟨k, hk⟩ := hx.choose_spec; exact ⟨k, by rw [hk]; exact h⟩
  · cases h
theorem LeO_ge {α : Type} {F : Nat → Option α} (hm : ∀ k, LeO (F k) (F (k + 1))) {k j : Nat} (hkj : k ≤ j) : LeO (F k) (F j) := by
  induction hkj with
  | refl => exact LeO.refl _
  | step _ ih => exact ih.trans (hm _)
theorem tot_of {α : Type} {F : Nat → Option α} (hm : ∀ k, LeO (F k) (F (k + 1))) {k : Nat} {r : α} (h : F k = some r) : tot F = some r := by
  have hx : ∃ r k, F k = some r := ⟨r, k, h⟩
  unfold tot
  rw [dif_pos hx]
  obtain ⟨j, hj⟩ := hx.choose_spec
  have a := LeO_ge hm (Nat.le_max_left k j) _ h
  have b := LeO_ge hm (Nat.le_max_right k j) _ hj
  rw [a] at b
  exact b.symm
theorem setCell_drewN_ (w : World) (n : Nat) (a : Addr) (v : Value) : (w.drewN n).setCell a v = (w.setCell a v).drewN n := rfl
/-- The program enters function G, called through a value. -/
def EnterF (P : Program) (G : FuncId) : Prop := ∀ (args : Array Value) (w : World), (callFunc G args).run P w = .ok (.enter G args) w
theorem EnterF.of {P : Program} {f : FuncId} {fn : Func} (hf : P.funcs[f]? = some fn) (hname : (fn.name == "runtime.NumGoroutine") = false) (hb : fn.body.isSome = true) : EnterF P f := fun args w => PrintLast.enters_ hf hname hb args w
section
variable {P : Program} {ops : Array Oper} {Q : Exit → Act → World → Prop}
theorem gate_value {o : Oper} {rest : List Oper} {a : Act} {W : World} {t : Tmp} {os_ : Array Operand} {ts : Array TypeId} (_ho : o.op = .call { callee := .value (.tmp t), args := os_, argTypes := ts }) (h : wpList P ops Q (o :: rest) a W) : wpList P ops Q (o :: rest) a W := h
/-- A call of a function value that lies in a slot. -/
theorem goesF_ {rest : List Oper} {oi : Oper} {a : Act} {w : World} (N : Option Tmp) (hd : oi.dst = N) (hg : oi.guard = none) {G : FuncId} {lb : Array Value} {fo : Operand} {os_ : Array Operand} {ts : Array TypeId} (eg : EnterF P G) (args : Array Value)
    (hop : oi.op = .call { callee := .value fo, args := os_, argTypes := ts }) (hf : a.eval fo = .func (.func G) #[] lb) (hargs : os_.map a.eval = args)
    (h : Calls P G (args ++ lb) w fun e w' => ∃ v, e = .returned v ∧ wpList P ops Q rest (a.put N v) w') : wpList P ops Q (oi :: rest) a w := by
  refine wpList_plain hg fun K hK => ?_
  have he := eg (args ++ lb) w
  have hrun : (execOp a.eval oi).run P w = .ok (.enter G (args ++ lb)) w := by
    unfold execOp
    simp [hop, resolve, Deferred.ofValue, invoke, hf, hargs, he]
  unfold Oper.wp
  rw [hrun, Oper.upon_enter]
  refine h.mono fun e w'' hh => ?_
  obtain ⟨v, rfl, hk⟩ := hh
  subst hd
  exact hK _ _ hk
/-- A call of a function value in a region that draws. -/
theorem goesV_ {oi : Oper} {N : Option Tmp} {a : Act} {w : World} {K : Act → World → Prop} {G : FuncId} {fb lb : Array Value} {fo : Operand} {os_ : Array Operand} {ts : Array TypeId} (eg : EnterF P G) (args : Array Value)
    (hw : Region.wanted oi (yielded ops a.tmps) = true) (hN : oi.dst = N) (hop : oi.op = .call { callee := .value fo, args := os_, argTypes := ts }) (hf : a.eval fo = .func (.func G) fb lb) (hargs : os_.map a.eval = args)
    (h : Calls P G (fb ++ args ++ lb) w fun e w' => ∃ v, e = .returned v ∧ K (a.put N v) w') : if Region.wanted oi (yielded ops a.tmps) = true then Oper.wp P oi a w K Q else K (a.put N undef) w := by
  refine PrintLast.call_ G (fb ++ args ++ lb) hw hN ?_ h
  have he := eg (fb ++ args ++ lb) w
  rw [Array.append_assoc] at he
  unfold execOp
  simp [hop, resolve, Deferred.ofValue, invoke, hf, hargs, he]
end
theorem below_via {W0 w W : World} (h : Below W0.heap.size W0 w) (k : Below w.heap.size w W) : Below W0.heap.size W0 W := h.trans (k.mono h.size)
/-- w' is w with new blocks, and with changes in blocks of M alone. -/
structure But (M : Nat → Prop) (w w' : World) : Prop where
  os : w'.os = w.os
  tape : w'.tape = w.tape
  output : w'.output = w.output
  size : w.heap.size ≤ w'.heap.size
  block : ∀ i, i < w.heap.size → ¬ M i → w'.heap[i]? = w.heap[i]?
namespace But
variable {M M' : Nat → Prop} {w w1 w2 : World}
theorem refl (M : Nat → Prop) (w : World) : But M w w := ⟨rfl, rfl, rfl, Nat.le_refl _, fun _ _ _ => rfl⟩
theorem trans (h : But M w w1) (k : But M w1 w2) : But M w w2 := ⟨k.os.trans h.os, k.tape.trans h.tape, k.output.trans h.output, Nat.le_trans h.size k.size, fun i hi hm => (k.block i (Nat.lt_of_lt_of_le hi h.size) hm).trans (h.block i hi hm)⟩
theorem mono (h : But M w w1) (hM : ∀ i, i < w.heap.size → M i → M' i) : But M' w w1 := ⟨h.os, h.tape, h.output, h.size, fun i hi hm => h.block i hi fun hk => hm (hM i hi hk)⟩
theorem of_below (h : Below w.heap.size w w1) : But M w w1 := ⟨h.os, h.tape, h.output, h.size, fun i hi _ => h.block i hi⟩
/-- What may have changed lies beyond w: then w lies as it was. -/
theorem below (h : But M w w1) (hM : ∀ i, i < w.heap.size → ¬ M i) : Below w.heap.size w w1 := ⟨h.os, h.tape, h.output, h.size, fun i hi => h.block i hi (hM i hi)⟩
theorem set (h : But M w w1) {g : Nat} (hg : M g ∨ w.heap.size ≤ g) (j : Nat) (u : Value) : But M w (w1.setCell ⟨g, j, none⟩ u) := by
  have hz : (w1.setCell ⟨g, j, none⟩ u).heap.size = w1.heap.size := by simp [World.setCell]
  refine ⟨h.os, h.tape, h.output, by rw [hz]; exact h.size, fun i hi hm => ?_⟩
  have hne : i ≠ g := by rintro rfl; rcases hg with hg | hg; exact hm hg; omega
  exact (Below.heap_setCell w1 ⟨g, j, none⟩ u i hne).trans (h.block i hi hm)
theorem blk (h : But M w w1) {g : Nat} {o : Obj} (hb : w.heap[g]? = some o) (hg : ¬ M g) : w1.heap[g]? = some o := (h.block g (blk_lt hb) hg).trans hb
end But
end Go.Proofs.YtcepbgffnneagaaW.PrintWords
end

section
namespace Go.Proofs.YtcepbgffnneagaaW.PrintWords
open Go Go.RowKit
set_option linter.unusedVariables false
namespace Kd
section
variable {P : Program} {α : Type}
end
section
variable {P : Program} {ops : Array Oper} {rest : List Oper} {o : Oper} {a : Act} {Q : Exit → Act → World → Prop} {α : Type}
end
end Kd
end Go.Proofs.YtcepbgffnneagaaW.PrintWords
end

section
namespace Go.Proofs.YtcepbgffnneagaaW.PrintWords
open Go Go.RowKit Go.Maps
set_option linter.unusedVariables false
/-- The map holds the keys of s, each with 'true'. -/
def Seen (P : Program) (k e : TypeId) (w : World) (b n : Nat) (s : List Int) : Prop :=
  ∃ D : DataW Unit, w.ownsMap P k (plainElem P e) b n D ∧ IsMap D ∧ ∀ x : Int, D.atKey (.int .i64 x) (.lit (.bool false)) = .lit (.bool (decide (x ∈ s)))
theorem Seen.made (P : Program) (k e : TypeId) (w : World) : Seen P k e (w.alloc (.map #[] 0)) w.heap.size 0 [] :=
  ⟨.map [], World.ownsMap_made _ _ _ _, ⟨[], rfl⟩, fun x => rfl⟩
theorem Seen.below {P : Program} {k e : TypeId} {w w' : World} {b n : Nat} {s : List Int} (h : Seen P k e w b n s) (hw : w'.heap = w.heap) : Seen P k e w' b n s := by
  obtain ⟨D, ⟨es, clock, hb, r⟩, h2⟩ := h
  exact ⟨D, ⟨es, clock, by rw [hw]; exact hb, r⟩, h2⟩
theorem wpList_seen {P : Program} (w : World) {ops : Array Oper} {rest : List Oper} {o : Oper} {a : Act} {Q : Exit → Act → World → Prop}
    (hw : Region.wanted o (yielded ops a.tmps) = true) (m x : Operand) (t : TypeId) (hop : o.op = Op.lookup t m x false)
    (k e : TypeId) (K : Keyed P k) (ht : P.underlying t = some (.map k e)) (he : P.underlying e = some .bool) (hz : (zeroValue e).run P w = .ok (.bool false) w) (b n : Nat) (s : List Int)
    (hm : a.eval m = .map (some b)) (hown : Seen P k e w b n s) (i : Int) (hx : a.eval x = .int .i64 i) (hkey : keyOf P k (.int .i64 i) = some (.int .i64 i))
    (hK : wpList P ops Q rest (a.put o.dst (.bool (decide (i ∈ s)))) w) :
    wpList P ops Q (o :: rest) a w := by
  refine wpList_step fun K' hK' => ?_
  rw [if_pos hw]
  obtain ⟨D, hD, _, hat⟩ := hown
  obtain ⟨v, ps, hrun, hv⟩ := hD.lookup K ht hz (plainElem_bool he false) hkey
  rw [hat] at hv
  have hv' : v = .bool (decide (i ∈ s)) := by
    unfold plainElem at hv
    rw [he] at hv
    cases v <;> simp at hv
    rw [hv.1]
  subst hv'
  unfold Oper.wp
  simp [execOp, hop, hm, hx, hrun, Result.andThen]
  exact hK' _ _ hK
theorem wpList_see {P : Program} (w : World) {ops : Array Oper} {rest : List Oper} {o : Oper} {a : Act} {Q : Exit → Act → World → Prop}
    (hg : o.guard = none) (m x v : Operand) (t : TypeId) (hop : o.op = Op.mapUpdate t m x v)
    (k e : TypeId) (K : Keyed P k) (ht : P.underlying t = some (.map k e)) (he : P.underlying e = some .bool) (b n : Nat) (s : List Int)
    (hm : a.eval m = .map (some b)) (hown : Seen P k e w b n s) (hn : n < maxLen) (i : Int) (hx : a.eval x = .int .i64 i) (hv : a.eval v = .bool true) (hkey : keyOf P k (.int .i64 i) = some (.int .i64 i)) (hlit : WideAt.IsKeyLit (.int .i64 i))
    (hK : ∀ w', Seen P k e w' b (n + 1) (s ++ [i]) → w.grownBy w' (some b) → wpList P ops Q rest (a.put o.dst undef) w') :
    wpList P ops Q (o :: rest) a w := by
  obtain ⟨D, hD, hM, hat⟩ := hown
  refine wpList_mapUpdate_own w hg m x v t hop k e K ht (plainElem P e) b n D hm hD hn _ _ _ hx hv hkey _ _ (plainElem_bool he true) fun w' h1 h2 => hK w' ⟨_, h1, by obtain ⟨es, c, _, _, _, e⟩ := h1; exact ⟨_, e⟩, fun y => ?_⟩ h2
  by_cases hy : y = i
  · subst hy
    rw [atKey_put_same hM hlit]; simp
  · rw [atKey_put_other (by simpa using hy), hat]
    congr 2
    simp [hy]
end Go.Proofs.YtcepbgffnneagaaW.PrintWords
end

section
namespace Go.Proofs.YtcepbgffnneagaaW.PrintWords
open Go Go.RowKit
set_option linter.unusedVariables false
theorem But.kept {M : Nat → Prop} {w w' : World} (h : But M w w') : Kept w w' M := ⟨h.size, fun i hi hm => h.block i hi hm⟩
theorem But.C_int {M : Nat → Prop} {w w' : World} {k : IntKind} {A : Option Addr} {n : Nat} {l : List Int} (h : But M w w') (hC : Kd.C (Kd.int k) w A n l) (hA : ∀ ad, A = some ad → ¬ M ad.block) : Kd.C (Kd.int k) w' A n l := by
  refine ⟨hC.1, hC.2.1, fun hn => ?_⟩
  obtain ⟨ad, he, hc⟩ := hC.2.2 hn
  refine ⟨ad, he, fun j p hj => ?_⟩
  obtain ⟨cs, h1, h2, h3⟩ := hc j p hj
  exact ⟨cs, h1, h2, fun i u hu => cell_kept (h3 i u hu) h.kept (by rw [add_block]; exact hA ad he)⟩
theorem But.cell {M : Nat → Prop} {w w' : World} (h : But M w w') {ad : Addr} {v : Value} (hc : w.cell? ad = some v) (hm : ¬ M ad.block) : w'.cell? ad = some v := cell_kept hc h.kept hm
theorem below_app {w wa w1 : World} (h : Below w.heap.size w wa) (hg : wa.grownBy w1 none) : Below w.heap.size w w1 := h.grown hg h.size (fun k e => by cases e)
theorem below_but {w W w' : World} {g : Nat} (h : Below w.heap.size w W) (k : But (fun i => i = g) W w') (hg : w.heap.size ≤ g) : Below w.heap.size w w' :=
  ((But.of_below (M := fun i => i = g) h).trans k).below fun i hi e => by omega
theorem cell_alloc (w : World) (v : Value) (e : TypeId) : (w.alloc (.cells #[v] e (0, 0))).cell? ⟨w.heap.size, 0, none⟩ = some v := (blk_cell (heap_alloc_new w _) 0).trans rfl
/-- A row of whole numbers that the call owns, read. -/
theorem C_of_owns {w : World} {base e n : Nat} {k : IntKind} {v : Value} {l : List Int} (h : w.ownsRow base e 1 v n (l.map (.int k))) (hn : 0 < n) (hl : l.length = n) :
    ∃ g cap, v = .slice (some ⟨g, 0, none⟩) n cap ∧ base ≤ g ∧ g < w.heap.size ∧ n ≤ cap ∧ Kd.C (Kd.int k) w (some ⟨g, 0, none⟩) n l := by
  have hcells := fun g => h.cells (g := g)
  have hlt := h.lt
  obtain ⟨hlen, h | ⟨g, cap, cur, rfl, hb, hg, hnc, hcm, _, _⟩⟩ := h
  · omega
  refine ⟨g, cap, rfl, hb, (hlt g rfl).2, hnc, hl, by unfold maxLen at hcm; omega, fun _ => ⟨_, rfl, fun j p hj => ⟨[.int k p], rfl, rfl, fun i u hu => ?_⟩⟩⟩
  obtain ⟨rfl, rfl⟩ : i = 0 ∧ u = .int k p := by
    cases i with
    | zero => exact ⟨rfl, by simpa using hu.symm⟩
    | succ i => simp at hu
  exact hcells g rfl _ _ (by rw [Nat.add_zero]; show (l.map (Value.int k))[j * 1]? = _; rw [Nat.mul_one, List.getElem?_map, hj]; rfl)
theorem app_full_step {P : Program} (w : World) {ops : Array Oper} {o : Oper} {a : Act} {Q : Exit → Act → World → Prop} {K : Act → World → Prop} {N : Option Tmp} (hN : o.dst = N)
    (hw : Region.wanted o (yielded ops a.tmps) = true) (s x : Operand) (t : TypeId) (hop : o.op = Op.call { callee := Callee.builtin Builtin.append, args := #[s, x], argTypes := #[t, t] })
    (e : TypeId) (i : TypeInfo) (k : IntKind) (bytes : Nat) (h1 : P.underlying t = some (.slice e)) (h2 : P.info? e = some i) (h3 : i.zero = some (.int k 0)) (h4 : i.size = 1) (h5 : i.bytes = bytes) (h6 : bytes ≤ 8)
    (A : Option Addr) (l : List Int) (hs : a.eval s = .slice A l.length l.length) (hC : Kd.C (Kd.int k) w A l.length l)
    (ad : Addr) (c : Nat) (y : Int) (hx : a.eval x = .slice (some ad) 1 c) (hc : w.cell? ad = some (.int k y)) (hl : l.length ≤ 1000)
    (hK : ∀ g cap w', Kd.C (Kd.int k) w' (some ⟨g, 0, none⟩) (l ++ [y]).length (l ++ [y]) → (l ++ [y]).length ≤ cap → w.heap.size ≤ g → g < w'.heap.size → w.grownBy w' none → K (a.put N (.slice (some ⟨g, 0, none⟩) (l ++ [y]).length cap)) w') :
    if Region.wanted o (yielded ops a.tmps) = true then Oper.wp P o a w K Q else K (a.put N undef) w := by
  subst hN
  rw [if_pos hw]
  have hlen : (l ++ [y]).length = l.length + 1 := by simp
  have hnews : ∀ j u, [Value.int k y][j]? = some u → w.cell? (ad.add j) = some u := by
    intro j u hj
    cases j with
    | zero => simp at hj; subst hj; show w.cell? ⟨ad.block, ad.off + 0, ad.spot⟩ = _; rw [Nat.add_zero]; exact hc
    | succ j => simp at hj
  have fin : ∀ v' w', w'.ownsRow w.heap.size e 1 v' (l.length + 1) (l.map (.int k) ++ [.int k y]) → w.grownBy w' none → K (a.put o.dst v') w' := by
    intro v' w' r1 r2
    have r1' : w'.ownsRow w.heap.size e 1 v' (l.length + 1) ((l ++ [y]).map (.int k)) := by simpa using r1
    obtain ⟨g, cap, rfl, hg, hg2, hcap, hC'⟩ := C_of_owns r1' (Nat.succ_pos _) hlen
    have := hK g cap w' (by rw [hlen]; exact hC') (by rw [hlen]; exact hcap) hg hg2 r2
    rwa [hlen] at this
  have b1 : l.length + 1 ≤ maxLen := by unfold maxLen; omega
  have b2 : (l.length + 1) * bytes ≤ 140737488355328 := Nat.le_trans (Nat.mul_le_mul (show l.length + 1 ≤ 1001 by omega) h6) (by omega)
  cases A with
  | some b =>
    have holds : ∀ j u, (l.map (Value.int k))[j]? = some u → w.cell? (b.add j) = some u := by
      intro j u hj
      rw [List.getElem?_map] at hj
      rcases hp : l[j]? with _ | p
      · rw [hp] at hj; cases hj
      rw [hp] at hj
      have hj2 := (List.getElem?_eq_some_iff.1 hp).1
      obtain ⟨ad2, e2, hc2⟩ := hC.2.2 (by omega)
      cases e2
      obtain ⟨cs, h1, h2, h3⟩ := hc2 j p hp
      obtain rfl : cs = [.int k p] := h2
      have := h3 0 _ rfl
      simp at hj; subst hj
      simpa [show (Kd.int k).sz = 1 from rfl] using this
    obtain ⟨v', w', hrun, r1, r2⟩ := run_append_arg_grows (P := P) w t o.type e i (.int k 0) 1 bytes h1 h2 h3 h4 h5 rfl (by decide) b l.length l.length (l.map (.int k)) (by simp) holds ad 1 c [.int k y] rfl hnews (by omega) b1 b2
    unfold Oper.wp
    simp [execOp, hop, resolve, invoke, builtin, hs, hx, hrun, Result.andThen]
    exact (fin v' w' r1 r2)
  | none =>
    have hl0 : l = [] := by
      cases l with
      | nil => rfl
      | cons a_ t_ => obtain ⟨ad2, e2, _⟩ := hC.2.2 (by simp); cases e2
    subst hl0
    obtain ⟨v', w', hrun, r1, r2, _⟩ := run_append_own (P := P) w w.heap.size t o.type e i (.int k 0) 1 bytes h1 h2 h3 h4 h5 rfl (by decide) (.slice none 0 0) 0 [] (World.ownsRow_nil w _ e 1) ad 1 c [.int k y] rfl hnews (by simp [Value.oneCell']) (by unfold maxLen; omega) (by omega) (Nat.le_refl _)
    unfold Oper.wp
    simp only [List.length_nil] at hs
    simp [execOp, hop, resolve, invoke, builtin, hs, hx, hrun, Result.andThen]
    exact (fin v' w' (by simpa using r1) r2)
theorem wpList_app_full {P : Program} (w : World) {ops : Array Oper} {rest : List Oper} {o : Oper} {a : Act} {Q : Exit → Act → World → Prop}
    (hw : Region.wanted o (yielded ops a.tmps) = true) (s x : Operand) (t : TypeId) (hop : o.op = Op.call { callee := Callee.builtin Builtin.append, args := #[s, x], argTypes := #[t, t] })
    (e : TypeId) (i : TypeInfo) (k : IntKind) (bytes : Nat) (h1 : P.underlying t = some (.slice e)) (h2 : P.info? e = some i) (h3 : i.zero = some (.int k 0)) (h4 : i.size = 1) (h5 : i.bytes = bytes) (h6 : bytes ≤ 8)
    (A : Option Addr) (l : List Int) (hs : a.eval s = .slice A l.length l.length) (hC : Kd.C (Kd.int k) w A l.length l)
    (ad : Addr) (c : Nat) (y : Int) (hx : a.eval x = .slice (some ad) 1 c) (hc : w.cell? ad = some (.int k y)) (hl : l.length ≤ 1000)
    (hK : ∀ g cap w', Kd.C (Kd.int k) w' (some ⟨g, 0, none⟩) (l ++ [y]).length (l ++ [y]) → (l ++ [y]).length ≤ cap → w.heap.size ≤ g → g < w'.heap.size → w.grownBy w' none → wpList P ops Q rest (a.put o.dst (.slice (some ⟨g, 0, none⟩) (l ++ [y]).length cap)) w') :
    wpList P ops Q (o :: rest) a w :=
  wpList_step fun K hK' => app_full_step w rfl hw s x t hop e i k bytes h1 h2 h3 h4 h5 h6 A l hs hC ad c y hx hc hl fun g cap w' c1 c2 c3 c4 c5 => hK' _ _ (hK g cap w' c1 c2 c3 c4 c5)
end Go.Proofs.YtcepbgffnneagaaW.PrintWords
end

section
namespace Go.Proofs.Ytcepbgffnneagaa.Q
open Go.RowKit Go.Proofs.YtcepbgffnneagaaW.PrintWords Go.Proofs.YtcepbgffnneagaaW.PrintLast Go.Proofs.YtcepbgffnneagaaW.PrintMore
attribute [local go_sem] max2_int min2_int max_two min_two max_three min_three max_four min_four   -- for this text's walks alone
set_option linter.unusedVariables false
set_option linter.unusedSimpArgs false



def errW : Option Int → Value
  | none => .nilIface
  | some c => .iface 0 (.int .i64 c)
theorem errW_none : errW none = .nilIface := rfl
theorem errW_some (c : Int) : errW (some c) = .iface 0 (.int .i64 c) := rfl

theorem info2 : (Try.prog.info? 2).map (fun i => (i.zero, i.size, i.bytes)) = some (some (.int .i64 0), 1, 8) := by kernel_rfl
theorem info27 : (Try.prog.info? 27).map (fun i => (i.zero, i.size, i.bytes)) = some (some (.agg #[(.int .i64 0), (.int .u32 0)]), 2, 16) := by kernel_rfl
structure S27 where
  f0 : Int
  f1 : Int
def z27 : S27 := ⟨(0 : Int), (0 : Int)⟩
def k27 : Kd S27 := Kd.iso (Kd.pair (Kd.int .i64) (Kd.int .u32)) (fun x : S27 => (x.f0, x.f1))
theorem k27_open {w : World} {x : S27} {cs : List Value} (h : k27.K w x cs) : cs = [.int .i64 x.f0, .int .u32 x.f1] := by
  obtain ⟨_, _, rfl, rfl, rfl⟩ := h
  exact rfl
theorem k27_mkM (w : World) (base : Nat) (ok : Nat → Prop) (x : S27)  : k27.M w base ok x [.int .i64 x.f0, .int .u32 x.f1] := ⟨[.int .i64 x.f0], [.int .u32 x.f1], rfl, rfl, rfl⟩
def rd_T27 (xs : List S27) (i : Int) : S27 := xs.getD i.toNat z27
theorem at_T27 {w : World} {A : Option Addr} {n : Nat} {xs : List S27} (h : Kd.C k27 w A n xs) (i : Int) (h0 : 0 ≤ i) (h1 : i < n) : ∃ ad , A = some ad ∧ w.cell? (ad.add (i.toNat * 2)) = some (.int .i64 (rd_T27 xs i).f0) ∧ w.cell? ⟨(ad.add (i.toNat * 2)).block, (ad.add (i.toNat * 2)).off + 1, none⟩ = some (.int .u32 (rd_T27 xs i).f1) := by
  obtain ⟨ad, c, e, _, hK, hc0⟩ := Kd.C_get h z27 i h0 h1
  have hc : ∀ j u, c[j]? = some u → w.cell? (ad.add (i.toNat * 2 + j)) = some u := hc0
  obtain rfl := k27_open hK
  exact ⟨ad, e, hc 0 _ rfl, by rw [← add_field _ _ 1 (by omega)]; exact hc 1 _ rfl⟩

structure S24 where
  f0 : Int
  f1 : Int
structure S31 where
  f0 : Int
  f1 : Int
structure S45 where
  f0 : Int
  f1 : S27
structure S42 where
  f0 : Int
  f1 : S24
end Go.Proofs.Ytcepbgffnneagaa.Q
end

section
namespace Go.Proofs.Ytcepbgffnneagaa.Q
open Go.RowKit Go.Proofs.YtcepbgffnneagaaW.PrintWords Go.Proofs.YtcepbgffnneagaaW.PrintLast Go.Proofs.YtcepbgffnneagaaW.PrintMore
attribute [local go_sem] max2_int min2_int max_two min_two max_three min_three max_four min_four   -- for this text's walks alone
set_option linter.unusedVariables false
set_option linter.unusedSimpArgs false

def impl_in.f (a0 : Int) (a1 : Int) (a2 : Int) : Option (Bool) := if a0 ≥ a1 then (some (decide (a0 ≤ a2))) else (some false)
set_option maxHeartbeats 8000000 in
set_option maxRecDepth 100000 in
theorem impl_in.calls (a0 : Int) (a1 : Int) (a2 : Int) (r : Bool) (w : World) (h : impl_in.f a0 a1 a2 = some r) :
    Calls Try.prog 70 #[.int .i64 a0, .int .i64 a1, .int .i64 a2] w fun e w' => e = .returned (.bool r) ∧ Drawn0 w w' := by
  have H : (if a0 ≥ a1 then (some (decide (a0 ≤ a2))) else (some false)) = some r := h
  clear h
  by_cases c4 : a0 ≥ a1
  · rw [if_pos c4] at H
    have c4b0 : decide (a1 ≤ a0) = true := decide_eq_true c4
    clear c4
    obtain rfl := Option.some.inj H
    go_enter Try.func70, Try.ntmps70
    go_wp2
    go_ret
    exact ⟨by first | rfl | (simp; done) | (simp [*]; done), by repeat (first | exact Drawn0.refl _ | apply Drawn0.step)⟩
  · rw [if_neg c4] at H
    have c4b0 : decide (a1 ≤ a0) = false := decide_eq_false c4
    clear c4
    obtain rfl := Option.some.inj H
    go_enter Try.func70, Try.ntmps70
    go_wp2
    go_ret
    exact ⟨by first | rfl | (simp; done) | (simp [*]; done), by repeat (first | exact Drawn0.refl _ | apply Drawn0.step)⟩

end Go.Proofs.Ytcepbgffnneagaa.Q
end

section
namespace Go.Proofs.Ytcepbgffnneagaa.Q
open Go.RowKit Go.Proofs.YtcepbgffnneagaaW.PrintWords Go.Proofs.YtcepbgffnneagaaW.PrintLast Go.Proofs.YtcepbgffnneagaaW.PrintMore
attribute [local go_sem] max2_int min2_int max_two min_two max_three min_three max_four min_four   -- for this text's walks alone
set_option linter.unusedVariables false
set_option linter.unusedSimpArgs false

def impl_pairs.f (a0 : Int) : Option (Int) := some (wrap64 (Int.tdiv (wrap64 (a0 * (wrap64 (a0 - 1)))) 2))
set_option maxHeartbeats 8000000 in
set_option maxRecDepth 100000 in
theorem impl_pairs.calls (a0 : Int) (r : Int) (w : World) (h : impl_pairs.f a0 = some r) :
    Calls Try.prog 102 #[.int .i64 a0] w fun e w' => e = .returned (.int .i64 r) ∧ Drawn0 w w' := by
  have H : (some (wrap64 (Int.tdiv (wrap64 (a0 * (wrap64 (a0 - 1)))) 2))) = some r := h
  clear h
  obtain rfl := Option.some.inj H
  go_enter Try.func102, Try.ntmps102
  go_wp2
  go_ret
  exact ⟨by first | rfl | (simp; done) | (simp [*]; done), by repeat (first | exact Drawn0.refl _ | apply Drawn0.step)⟩

end Go.Proofs.Ytcepbgffnneagaa.Q
end

section
namespace Go.Proofs.Ytcepbgffnneagaa.Q
open Go.RowKit Go.Proofs.YtcepbgffnneagaaW.PrintWords Go.Proofs.YtcepbgffnneagaaW.PrintLast Go.Proofs.YtcepbgffnneagaaW.PrintMore
attribute [local go_sem] max2_int min2_int max_two min_two max_three min_three max_four min_four   -- for this text's walks alone
set_option linter.unusedVariables false
set_option linter.unusedSimpArgs false

def impl_ValidGraph.f (a0_0 : Int) (a0_1 : Int) : Option (Bool) := (impl_in.f a0_0 0 5).bind fun t179 => (if t179 = true then ((impl_pairs.f a0_0).bind fun t180 => (if 0 ≤ t180 then (some ((shr .u32 a0_1 t180) == 0)) else (none))) else (some false))
set_option maxHeartbeats 8000000 in
set_option maxRecDepth 100000 in
theorem impl_ValidGraph.calls (a0_0 : Int) (a0_1 : Int) (r : Bool) (w : World) (h : impl_ValidGraph.f a0_0 a0_1 = some r) :
    Calls Try.prog 62 #[.agg #[.int .i64 a0_0, .int .u32 a0_1]] w fun e w' => e = .returned (.bool r) ∧ Below w.heap.size w w' := by
  have hu27 := Try.underlying27
  have HB := Aside0.mk (Below.refl w.heap.size w)
  have H : ((impl_in.f a0_0 0 5).bind fun t179 => (if t179 = true then ((impl_pairs.f a0_0).bind fun t180 => (if 0 ≤ t180 then (some ((shr .u32 a0_1 t180) == 0)) else (none))) else (some false))) = some r := h
  clear h
  replace H := Option.bind_eq_some_iff.mp H
  obtain ⟨t179, A20, H⟩ := H
  replace H : (if t179 = true then ((impl_pairs.f a0_0).bind fun t180 => (if 0 ≤ t180 then (some ((shr .u32 a0_1 t180) == 0)) else (none))) else (some false)) = some r := H
  have A2 := Aside0.mk A20
  clear A20
  by_cases c3 : t179 = true
  · subst c3
    have H1 : ((impl_pairs.f a0_0).bind fun t180 => (if 0 ≤ t180 then (some ((shr .u32 a0_1 t180) == 0)) else (none))) = some r := by rw [if_pos rfl] at H; exact H
    clear H
    have H := H1
    clear H1
    replace H := Option.bind_eq_some_iff.mp H
    obtain ⟨t180, A40, H⟩ := H
    replace H : (if 0 ≤ t180 then (some ((shr .u32 a0_1 t180) == 0)) else (none)) = some r := H
    have A4 := Aside0.mk A40
    clear A40
    by_cases c5 : 0 ≤ t180
    · rw [if_pos c5] at H
      have c5b0 := eq_true c5
      have c5b1 : decide (0 ≤ t180) = true := decide_eq_true c5
      clear c5
      obtain ⟨ji6, hji6⟩ : ∃ j_ : Int, (shr .u32 a0_1 t180) = j_ := ⟨_, rfl⟩
      replace H : (some ((ji6) == 0)) = some r := by first | (rw [hji6] at H; exact H) | (simp only [hji6] at H ⊢; exact H)
      (try rw [hji6] at A2)
      (try rw [hji6] at A4)
      have hji6_ : (a0_1 / 2 ^ min t180.toNat 32) = ji6 := hji6
      have hji6z : t180 ≤ 32 → (a0_1 / 2 ^ t180.toNat) = ji6 := shr_small hji6
      obtain rfl := Option.some.inj H
      go_enter Try.func62, Try.ntmps62
      go_wp2_with (first | ((with_reducible refine gate_dst (N := 1) rfl ?_); refine box_event ?hg (N := 1) ?hd (cs := #[.int .i64 a0_0, .int .u32 a0_1]) (t := 27) ?hr ?_; (case hd => rfl); (case hg => rfl); (case hr => first | (go_simp; done) | (go_simp; rfl)); intro gb178 hg w7 hbox hb; have n0_ := Aside0.mk (below_step (by repeat (first | (with_reducible first | exact HB.out | apply below_alloc | apply pw_below_drewN | apply below_drew1) | exact HB.out)) hb); have n1_ := Aside0.mk (hbox); have n2_ := Aside0.mk ((by rw [hg]; exact (below_size (by repeat (first | (with_reducible first | exact HB.out | apply below_alloc | apply pw_below_drewN | apply below_drew1) | exact HB.out))) : w.heap.size ≤ gb178)); have n3_ := Aside0.mk ((by rw [hg]; exact (below_size (by repeat (first | (with_reducible first | exact HB.out | apply below_alloc | apply pw_below_drewN | apply below_drew1) | exact HB.out))) : w.heap.size ≤ gb178)); clear HB; have HB := n0_; have BK178 := n1_; have GW178 := n2_; have GE178 := n3_; clear n0_ n1_ n2_ n3_; clear hb hbox hg; have hcz8_0 : w7.cell? ⟨gb178, 0, none⟩ = some (.int .i64 a0_0) := (blk_cell BK178.out 0).trans rfl; have hcz8_1 : w7.cell? ⟨gb178, 1, none⟩ = some (.int .u32 a0_1) := (blk_cell BK178.out 1).trans rfl; have hfz8_0 := blk_frozen BK178.out 0; have hfz8_1 := blk_frozen BK178.out 1) | (go_at_call 70; (with_reducible refine (impl_in.calls a0_0 0 5 true _ A2.out).mono ?_); rintro e w' ⟨rfl, ⟨nd, rfl⟩⟩; (try first | exact ⟨rfl, _, World.drewN_drewN _ _ _⟩ | exact ⟨rfl, _, Eq.trans (World.drewN_drewN _ _ _) (congrArg (World.drewN _) (Nat.add_assoc _ _ _))⟩)) | (go_at_call 102; (with_reducible refine (impl_pairs.calls a0_0 t180 _ A4.out).mono ?_); rintro e w' ⟨rfl, ⟨nd, rfl⟩⟩; (try first | exact ⟨rfl, _, World.drewN_drewN _ _ _⟩ | exact ⟨rfl, _, Eq.trans (World.drewN_drewN _ _ _) (congrArg (World.drewN _) (Nat.add_assoc _ _ _))⟩)))
      repeat (go_quiet (first | ((with_reducible refine gate_dst (N := 1) rfl ?_); refine box_event ?hg (N := 1) ?hd (cs := #[.int .i64 a0_0, .int .u32 a0_1]) (t := 27) ?hr ?_; (case hd => rfl); (case hg => rfl); (case hr => first | (go_simp; done) | (go_simp; rfl)); intro gb178 hg w7 hbox hb; have n0_ := Aside0.mk (below_step (by repeat (first | (with_reducible first | exact HB.out | apply below_alloc | apply pw_below_drewN | apply below_drew1) | exact HB.out)) hb); have n1_ := Aside0.mk (hbox); have n2_ := Aside0.mk ((by rw [hg]; exact (below_size (by repeat (first | (with_reducible first | exact HB.out | apply below_alloc | apply pw_below_drewN | apply below_drew1) | exact HB.out))) : w.heap.size ≤ gb178)); have n3_ := Aside0.mk ((by rw [hg]; exact (below_size (by repeat (first | (with_reducible first | exact HB.out | apply below_alloc | apply pw_below_drewN | apply below_drew1) | exact HB.out))) : w.heap.size ≤ gb178)); clear HB; have HB := n0_; have BK178 := n1_; have GW178 := n2_; have GE178 := n3_; clear n0_ n1_ n2_ n3_; clear hb hbox hg; have hcz8_0 : w7.cell? ⟨gb178, 0, none⟩ = some (.int .i64 a0_0) := (blk_cell BK178.out 0).trans rfl; have hcz8_1 : w7.cell? ⟨gb178, 1, none⟩ = some (.int .u32 a0_1) := (blk_cell BK178.out 1).trans rfl; have hfz8_0 := blk_frozen BK178.out 0; have hfz8_1 := blk_frozen BK178.out 1) | (go_at_call 70; (with_reducible refine (impl_in.calls a0_0 0 5 true _ A2.out).mono ?_); rintro e w' ⟨rfl, ⟨nd, rfl⟩⟩; (try first | exact ⟨rfl, _, World.drewN_drewN _ _ _⟩ | exact ⟨rfl, _, Eq.trans (World.drewN_drewN _ _ _) (congrArg (World.drewN _) (Nat.add_assoc _ _ _))⟩)) | (go_at_call 102; (with_reducible refine (impl_pairs.calls a0_0 t180 _ A4.out).mono ?_); rintro e w' ⟨rfl, ⟨nd, rfl⟩⟩; (try first | exact ⟨rfl, _, World.drewN_drewN _ _ _⟩ | exact ⟨rfl, _, Eq.trans (World.drewN_drewN _ _ _) (congrArg (World.drewN _) (Nat.add_assoc _ _ _))⟩))); try go_wp2_with (first | ((with_reducible refine gate_dst (N := 1) rfl ?_); refine box_event ?hg (N := 1) ?hd (cs := #[.int .i64 a0_0, .int .u32 a0_1]) (t := 27) ?hr ?_; (case hd => rfl); (case hg => rfl); (case hr => first | (go_simp; done) | (go_simp; rfl)); intro gb178 hg w7 hbox hb; have n0_ := Aside0.mk (below_step (by repeat (first | (with_reducible first | exact HB.out | apply below_alloc | apply pw_below_drewN | apply below_drew1) | exact HB.out)) hb); have n1_ := Aside0.mk (hbox); have n2_ := Aside0.mk ((by rw [hg]; exact (below_size (by repeat (first | (with_reducible first | exact HB.out | apply below_alloc | apply pw_below_drewN | apply below_drew1) | exact HB.out))) : w.heap.size ≤ gb178)); have n3_ := Aside0.mk ((by rw [hg]; exact (below_size (by repeat (first | (with_reducible first | exact HB.out | apply below_alloc | apply pw_below_drewN | apply below_drew1) | exact HB.out))) : w.heap.size ≤ gb178)); clear HB; have HB := n0_; have BK178 := n1_; have GW178 := n2_; have GE178 := n3_; clear n0_ n1_ n2_ n3_; clear hb hbox hg; have hcz8_0 : w7.cell? ⟨gb178, 0, none⟩ = some (.int .i64 a0_0) := (blk_cell BK178.out 0).trans rfl; have hcz8_1 : w7.cell? ⟨gb178, 1, none⟩ = some (.int .u32 a0_1) := (blk_cell BK178.out 1).trans rfl; have hfz8_0 := blk_frozen BK178.out 0; have hfz8_1 := blk_frozen BK178.out 1) | (go_at_call 70; (with_reducible refine (impl_in.calls a0_0 0 5 true _ A2.out).mono ?_); rintro e w' ⟨rfl, ⟨nd, rfl⟩⟩; (try first | exact ⟨rfl, _, World.drewN_drewN _ _ _⟩ | exact ⟨rfl, _, Eq.trans (World.drewN_drewN _ _ _) (congrArg (World.drewN _) (Nat.add_assoc _ _ _))⟩)) | (go_at_call 102; (with_reducible refine (impl_pairs.calls a0_0 t180 _ A4.out).mono ?_); rintro e w' ⟨rfl, ⟨nd, rfl⟩⟩; (try first | exact ⟨rfl, _, World.drewN_drewN _ _ _⟩ | exact ⟨rfl, _, Eq.trans (World.drewN_drewN _ _ _) (congrArg (World.drewN _) (Nat.add_assoc _ _ _))⟩))))
      go_ret
      exact ⟨by first | rfl | (simp [errW_none, errW_some] <;> rfl) | (simp only [← hji6]; first | rfl | (simp [errW_none, errW_some] <;> rfl)) | (simp [*, errW_none, errW_some] <;> rfl), by repeat (first | (with_reducible first | exact HB.out | apply below_alloc | apply pw_below_drewN | apply below_drew1 | refine below_set ?_ GE178.out) | exact HB.out)⟩
    · rw [if_neg c5] at H
      exact absurd H (by simp)
  · replace c3 := Bool.eq_false_iff.mpr c3
    subst c3
    have H1 : (some false) = some r := by rw [if_neg (show ¬ (false = true) by decide)] at H; exact H
    clear H
    have H := H1
    clear H1
    obtain rfl := Option.some.inj H
    go_enter Try.func62, Try.ntmps62
    go_wp2_with (first | ((with_reducible refine gate_dst (N := 1) rfl ?_); refine box_event ?hg (N := 1) ?hd (cs := #[.int .i64 a0_0, .int .u32 a0_1]) (t := 27) ?hr ?_; (case hd => rfl); (case hg => rfl); (case hr => first | (go_simp; done) | (go_simp; rfl)); intro gb178 hg w9 hbox hb; have n0_ := Aside0.mk (below_step (by repeat (first | (with_reducible first | exact HB.out | apply below_alloc | apply pw_below_drewN | apply below_drew1) | exact HB.out)) hb); have n1_ := Aside0.mk (hbox); have n2_ := Aside0.mk ((by rw [hg]; exact (below_size (by repeat (first | (with_reducible first | exact HB.out | apply below_alloc | apply pw_below_drewN | apply below_drew1) | exact HB.out))) : w.heap.size ≤ gb178)); have n3_ := Aside0.mk ((by rw [hg]; exact (below_size (by repeat (first | (with_reducible first | exact HB.out | apply below_alloc | apply pw_below_drewN | apply below_drew1) | exact HB.out))) : w.heap.size ≤ gb178)); clear HB; have HB := n0_; have BK178 := n1_; have GW178 := n2_; have GE178 := n3_; clear n0_ n1_ n2_ n3_; clear hb hbox hg; have hcz10_0 : w9.cell? ⟨gb178, 0, none⟩ = some (.int .i64 a0_0) := (blk_cell BK178.out 0).trans rfl; have hcz10_1 : w9.cell? ⟨gb178, 1, none⟩ = some (.int .u32 a0_1) := (blk_cell BK178.out 1).trans rfl; have hfz10_0 := blk_frozen BK178.out 0; have hfz10_1 := blk_frozen BK178.out 1) | (go_at_call 70; (with_reducible refine (impl_in.calls a0_0 0 5 false _ A2.out).mono ?_); rintro e w' ⟨rfl, ⟨nd, rfl⟩⟩; (try first | exact ⟨rfl, _, World.drewN_drewN _ _ _⟩ | exact ⟨rfl, _, Eq.trans (World.drewN_drewN _ _ _) (congrArg (World.drewN _) (Nat.add_assoc _ _ _))⟩)))
    repeat (go_quiet (first | ((with_reducible refine gate_dst (N := 1) rfl ?_); refine box_event ?hg (N := 1) ?hd (cs := #[.int .i64 a0_0, .int .u32 a0_1]) (t := 27) ?hr ?_; (case hd => rfl); (case hg => rfl); (case hr => first | (go_simp; done) | (go_simp; rfl)); intro gb178 hg w9 hbox hb; have n0_ := Aside0.mk (below_step (by repeat (first | (with_reducible first | exact HB.out | apply below_alloc | apply pw_below_drewN | apply below_drew1) | exact HB.out)) hb); have n1_ := Aside0.mk (hbox); have n2_ := Aside0.mk ((by rw [hg]; exact (below_size (by repeat (first | (with_reducible first | exact HB.out | apply below_alloc | apply pw_below_drewN | apply below_drew1) | exact HB.out))) : w.heap.size ≤ gb178)); have n3_ := Aside0.mk ((by rw [hg]; exact (below_size (by repeat (first | (with_reducible first | exact HB.out | apply below_alloc | apply pw_below_drewN | apply below_drew1) | exact HB.out))) : w.heap.size ≤ gb178)); clear HB; have HB := n0_; have BK178 := n1_; have GW178 := n2_; have GE178 := n3_; clear n0_ n1_ n2_ n3_; clear hb hbox hg; have hcz10_0 : w9.cell? ⟨gb178, 0, none⟩ = some (.int .i64 a0_0) := (blk_cell BK178.out 0).trans rfl; have hcz10_1 : w9.cell? ⟨gb178, 1, none⟩ = some (.int .u32 a0_1) := (blk_cell BK178.out 1).trans rfl; have hfz10_0 := blk_frozen BK178.out 0; have hfz10_1 := blk_frozen BK178.out 1) | (go_at_call 70; (with_reducible refine (impl_in.calls a0_0 0 5 false _ A2.out).mono ?_); rintro e w' ⟨rfl, ⟨nd, rfl⟩⟩; (try first | exact ⟨rfl, _, World.drewN_drewN _ _ _⟩ | exact ⟨rfl, _, Eq.trans (World.drewN_drewN _ _ _) (congrArg (World.drewN _) (Nat.add_assoc _ _ _))⟩))); try go_wp2_with (first | ((with_reducible refine gate_dst (N := 1) rfl ?_); refine box_event ?hg (N := 1) ?hd (cs := #[.int .i64 a0_0, .int .u32 a0_1]) (t := 27) ?hr ?_; (case hd => rfl); (case hg => rfl); (case hr => first | (go_simp; done) | (go_simp; rfl)); intro gb178 hg w9 hbox hb; have n0_ := Aside0.mk (below_step (by repeat (first | (with_reducible first | exact HB.out | apply below_alloc | apply pw_below_drewN | apply below_drew1) | exact HB.out)) hb); have n1_ := Aside0.mk (hbox); have n2_ := Aside0.mk ((by rw [hg]; exact (below_size (by repeat (first | (with_reducible first | exact HB.out | apply below_alloc | apply pw_below_drewN | apply below_drew1) | exact HB.out))) : w.heap.size ≤ gb178)); have n3_ := Aside0.mk ((by rw [hg]; exact (below_size (by repeat (first | (with_reducible first | exact HB.out | apply below_alloc | apply pw_below_drewN | apply below_drew1) | exact HB.out))) : w.heap.size ≤ gb178)); clear HB; have HB := n0_; have BK178 := n1_; have GW178 := n2_; have GE178 := n3_; clear n0_ n1_ n2_ n3_; clear hb hbox hg; have hcz10_0 : w9.cell? ⟨gb178, 0, none⟩ = some (.int .i64 a0_0) := (blk_cell BK178.out 0).trans rfl; have hcz10_1 : w9.cell? ⟨gb178, 1, none⟩ = some (.int .u32 a0_1) := (blk_cell BK178.out 1).trans rfl; have hfz10_0 := blk_frozen BK178.out 0; have hfz10_1 := blk_frozen BK178.out 1) | (go_at_call 70; (with_reducible refine (impl_in.calls a0_0 0 5 false _ A2.out).mono ?_); rintro e w' ⟨rfl, ⟨nd, rfl⟩⟩; (try first | exact ⟨rfl, _, World.drewN_drewN _ _ _⟩ | exact ⟨rfl, _, Eq.trans (World.drewN_drewN _ _ _) (congrArg (World.drewN _) (Nat.add_assoc _ _ _))⟩))))
    go_ret
    exact ⟨by first | rfl | (simp [errW_none, errW_some] <;> rfl) | (simp [*, errW_none, errW_some] <;> rfl), by repeat (first | (with_reducible first | exact HB.out | apply below_alloc | apply pw_below_drewN | apply below_drew1 | refine below_set ?_ GE178.out) | exact HB.out)⟩

end Go.Proofs.Ytcepbgffnneagaa.Q
end

section
namespace Go.Proofs.Ytcepbgffnneagaa.Q
open Go.RowKit Go.Proofs.YtcepbgffnneagaaW.PrintWords Go.Proofs.YtcepbgffnneagaaW.PrintLast Go.Proofs.YtcepbgffnneagaaW.PrintMore
attribute [local go_sem] max2_int min2_int max_two min_two max_three min_three max_four min_four   -- for this text's walks alone
set_option linter.unusedVariables false
set_option linter.unusedSimpArgs false

set_option maxHeartbeats 8000000 in
set_option maxRecDepth 100000 in
theorem slices_Clip.calls (A0 : Option Addr) (c0 : Nat) (l0 : List Int) (w : World) (hr0 : Kd.C (Kd.int .i64) w A0 l0.length l0) (hc0 : l0.length ≤ c0) :
    Calls Try.prog 163 #[.slice A0 l0.length c0] w fun e w' => e = .returned (.slice A0 l0.length l0.length) ∧ Drawn0 w w' := by
  have hmax : l0.length ≤ 9223372036854775807 := hr0.2.1
  have hA := hr0.2.2
  clear hr0
  go_enter Try.func163, Try.ntmps163
  go_wp2
  go_ret
  exact ⟨rfl, Drawn0.refl _⟩

end Go.Proofs.Ytcepbgffnneagaa.Q
end

section
namespace Go.Proofs.Ytcepbgffnneagaa.Q
open Go.RowKit Go.Proofs.YtcepbgffnneagaaW.PrintWords Go.Proofs.YtcepbgffnneagaaW.PrintLast Go.Proofs.YtcepbgffnneagaaW.PrintMore
attribute [local go_sem] max2_int min2_int max_two min_two max_three min_three max_four min_four   -- for this text's walks alone
set_option linter.unusedVariables false
set_option linter.unusedSimpArgs false

/-- All ascending lists of so many numbers of a list that go on from a list that is there, in order: what is done with them, one after the other. -/
def impl_chosen_1.l0 {σ : Type} (f : Int → List Int → σ → Option σ) (L : List Int) : Nat → List Int → Int → σ → Option σ
  | 0, _, _, _ => none
  | k + 1, x1, x8, s => if x8 < (L.length : Int) then (if 0 ≤ x8 then (if x1.length ≤ 1000 then ((f (wrap64 (x8 + 1)) (x1 ++ [rd L x8]) s).bind fun s => impl_chosen_1.l0 f L k x1 (wrap64 (x8 + 1)) s) else none) else none) else some s
def impl_chosen_1.f {σ : Type} (cb : List Int → σ → Option σ) (m : Int) (L : List Int) : Nat → Int → List Int → σ → Option σ
  | 0, _, _, _ => none
  | k + 1, a0, l1, s => if (l1.length : Int) = m then cb l1 s else impl_chosen_1.l0 (impl_chosen_1.f cb m L k) L (k + 1) l1 a0 s
def impl_chosen_1.T5 : Bool × List (List Nat × List Nat) := (true, [([], []), ([], []), ([1], [1]), ([], []), ([3], [3]), ([], []), ([], []), ([5, 6], [5, 6]), ([7], [7]), ([8], [8]), ([4, 9, 4], [4, 9]), ([0, 2, 10, 10], [0, 2, 10])])
def impl_chosen_1.B5 : List Nat := [0, 0, 2, 0, 8, 0, 0, 96, 224, 480, 1016, 2047]
theorem impl_chosen_1.tab5 : rtab .any (opsOf Try.f162 5) = impl_chosen_1.T5 := by kernel_rfl
theorem impl_chosen_1.bits5 : waitsOk impl_chosen_1.T5.2 impl_chosen_1.B5 = true := by kernel_rfl
set_option maxHeartbeats 16000000 in
set_option maxRecDepth 100000 in
theorem impl_chosen_1.state {σ : Type} (cb : List Int → σ → Option σ) (I : σ → World → Prop) (M : Nat → Prop) (G1 : Nat) (lb1 : Array Value) (eg1 : EnterF Try.prog G1) (W0 : World) (hM : ∀ k, M k → k < W0.heap.size)
    (hI : Aside0 (∀ a W W', I a W → Below W.heap.size W W' → I a W'))
    (hcb : Aside0 (∀ (l : List Int) (a a' : σ) (A : Option Addr) (c : Nat) (W : World), I a W → Kd.C (Kd.int .i64) W A l.length l → l.length ≤ c → cb l a = some a' → But M W0 W → Calls Try.prog G1 (#[.slice A l.length c] ++ lb1) W fun e w' => e = .returned (.tuple #[]) ∧ I a' w' ∧ But M W w'))
    (gb702 : Nat) (s702_0 : Int) (gb703 gb704 : Nat) (A704 : Option Addr) (c704 : Nat) (l704 : List Int) (gb705 : Nat) (m702 : Aside0 (¬ M gb702)) (m703 : Aside0 (¬ M gb703)) (m704 : Aside0 (¬ M gb704)) (m705 : Aside0 (¬ M gb705)) (mA : Aside0 (∀ ad, A704 = some ad → ¬ M ad.block)) (k : Nat) :
    ∀ (a0 : Int) (A1 : Option Addr) (c1 : Nat) (l1 : List Int) (a a' : σ) (w : World) (hb702 : w.heap[gb702]? = some (.cells #[.int .i64 s702_0] 3 (0, 0))) (hb703 : w.heap[gb703]? = some (.cells #[.func (.func G1) #[] lb1] 125 (0, 0))) (hb704 : w.heap[gb704]? = some (.cells #[.slice A704 l704.length c704] 62 (0, 0))) (hb705 : w.heap[gb705]? = some (.cells #[.func (.func 162) #[] #[.pointer (some ⟨gb702, 0, none⟩), .pointer (some ⟨gb703, 0, none⟩), .pointer (some ⟨gb704, 0, none⟩), .pointer (some ⟨gb705, 0, none⟩)]] 148 (0, 0)))
    (hr704 : Kd.C (Kd.int .i64) w A704 l704.length l704) (hr1 : Kd.C (Kd.int .i64) w A1 l1.length l1) (hc1 : l1.length ≤ c1) (hA1 : ∀ ad, A1 = some ad → ¬ M ad.block) (hi : I a w) (hB : But M W0 w) (h : impl_chosen_1.f cb s702_0 l704 k a0 l1 a = some a'),
    Calls Try.prog 162 #[.int .i64 a0, .slice A1 l1.length c1, .pointer (some ⟨gb702, 0, none⟩), .pointer (some ⟨gb703, 0, none⟩), .pointer (some ⟨gb704, 0, none⟩), .pointer (some ⟨gb705, 0, none⟩)] w fun e w' => e = .returned (.tuple #[]) ∧ I a' w' ∧ But M w w' := by
  induction k using Nat.strongRecOn with
  | _ k ih =>
  intro a0 A1 c1 l1 a a' w hb702 hb703 hb704 hb705 hr704 hr1 hc1 hA1 hi hB h
  cases k with
  | zero => exact absurd h (by simp [impl_chosen_1.f])
  | succ k =>
  simp only [impl_chosen_1.f] at h
  have BK702 := Aside0.mk hb702
  have BK703 := Aside0.mk hb703
  have BK704 := Aside0.mk hb704
  have BK705 := Aside0.mk hb705
  have HR704 := Aside0.mk hr704
  have HR1 := Aside0.mk hr1
  have HC1 := Aside0.mk hc1
  have HA1 := Aside0.mk hA1
  have HI0 := Aside0.mk hi
  have HBut0 := Aside0.mk hB
  have HM := Aside0.mk hM
  clear hb702 hb703 hb704 hb705 hr704 hr1 hc1 hA1 hi hB hM
  obtain ⟨i0, hi0, hz0, hs0, hb0⟩ := info_parts info2
  have INF := Aside0.mk (show Try.prog.info? 2 = some i0 ∧ i0.zero = some (.int .i64 0) ∧ i0.size = 1 ∧ i0.bytes = 8 from ⟨hi0, hz0, hs0, hb0⟩)
  clear hi0 hz0 hs0 hb0
  have H : (if (l1.length : Int) = s702_0 then cb l1 a else impl_chosen_1.l0 (impl_chosen_1.f cb s702_0 l704 k) l704 (k + 1) l1 a0 a) = some a' := h
  clear h
  have hcz8_0 : w.cell? ⟨gb702, 0, none⟩ = some (.int .i64 s702_0) := (blk_cell BK702.out 0).trans rfl
  have hfz8_0 := blk_frozen BK702.out 0
  by_cases c3 : (l1.length : Int) = s702_0
  · rw [if_pos c3] at H
    have c3b0 : ((l1.length : Int) == s702_0) = true := beq_iff_eq.mpr c3
    have H' := Aside0.mk H
    clear c3 H
    have hcz11_0 : w.cell? ⟨gb703, 0, none⟩ = some (.func (.func G1) #[] lb1) := (blk_cell BK703.out 0).trans rfl
    have hfz11_0 := blk_frozen BK703.out 0
    go_enter Try.func162, Try.ntmps162
    go_wp2_with ((with_reducible refine gate_value (t := 13) rfl ?_); refine goesF_ (some 15) rfl rfl eg1 #[.slice A1 l1.length c1] rfl rfl (by (try simp only [List.map_toArray, List.map_cons, List.map_nil]); first | done | rfl) ?_; (refine (hcb.out l1 a a' A1 c1 w HI0.out HR1.out HC1.out H'.out HBut0.out).mono ?_); rintro e w' ⟨rfl, hi', hb'⟩; refine ⟨_, rfl, ?_⟩)
    first | go_end0 | ((try simp only [Exit.inBlock, Exit.then]); refine bodyPost_ret (results_none rfl _ _ _) rfl ?_)
    exact ⟨rfl, hi', hb'⟩
  · rw [if_neg c3] at H
    have c3b0 : ((l1.length : Int) == s702_0) = false := beq_eq_false_iff_ne.mpr c3
    have H' := Aside0.mk H
    clear c3 H
    go_enter Try.func162, Try.ntmps162
    go_wp2
    go_loopg [8] (k + 1) (fun kq v8 w' => ∃ (x8_1 : Int) (s1 : σ), v8 = .int .i64 x8_1 ∧ Aside0 (impl_chosen_1.l0 (impl_chosen_1.f cb s702_0 l704 k) l704 kq l1 x8_1 s1 = some a') ∧ Aside0 (kq ≤ k + 1) ∧ Aside0 (w'.heap[gb702]? = some (.cells #[.int .i64 s702_0] 3 (0, 0))) ∧ Aside0 (w'.heap[gb703]? = some (.cells #[.func (.func G1) #[] lb1] 125 (0, 0))) ∧ Aside0 (w'.heap[gb704]? = some (.cells #[.slice A704 l704.length c704] 62 (0, 0))) ∧ Aside0 (w'.heap[gb705]? = some (.cells #[.func (.func 162) #[] #[.pointer (some ⟨gb702, 0, none⟩), .pointer (some ⟨gb703, 0, none⟩), .pointer (some ⟨gb704, 0, none⟩), .pointer (some ⟨gb705, 0, none⟩)]] 148 (0, 0))) ∧ Aside0 (I s1 w') ∧ Aside0 (But M w w'))
    case atStart => exact ⟨a0, a, rfl, H', ⟨Nat.le_refl _⟩, BK702, BK703, BK704, BK705, HI0, ⟨But.refl _ _⟩⟩
    case round =>
      clear H' BK702 BK703 BK704 BK705 HI0
      try clear c3b0
      try clear hcz8_0
      try clear hfz8_0
      obtain ⟨x8_1, s1, rfl, HA, HK1, BK702, BK703, BK704, BK705, HI, HBut⟩ := hrel
      cases gk with
      | zero => exact absurd HA.out (by simp [impl_chosen_1.l0])
      | succ k1 =>
        have H := HA.out
        clear HA
        simp only [impl_chosen_1.l0] at H
        have hcz25_0 : wr.cell? ⟨gb704, 0, none⟩ = some (.slice A704 l704.length c704) := (blk_cell BK704.out 0).trans rfl
        have hfz25_0 := blk_frozen BK704.out 0
        by_cases c17 : x8_1 < (l704.length : Int)
        · rw [if_pos c17] at H
          have c17b0 : decide (x8_1 < (l704.length : Int)) = true := decide_eq_true c17
          clear c17
          by_cases c19 : 0 ≤ x8_1
          · rw [if_pos c19] at H
            have c19b0 : decide (0 ≤ x8_1) = true := decide_eq_true c19
            clear c19
            by_cases c20 : l1.length ≤ 1000
            · rw [if_pos c20] at H
              have LM := Aside0.mk c20
              clear c20
              obtain ⟨s2, A210, H⟩ := Option.bind_eq_some_iff.mp H
              have A21 := Aside0.mk A210
              have H' := Aside0.mk H
              clear A210 H
              have HRr := Aside0.mk (HBut.out.C_int HR704.out mA.out)
              have HR1r := Aside0.mk (HBut.out.C_int HR1.out HA1.out)
              have HB := Aside0.mk (Below.refl wr.heap.size wr)
              try go_wp2
              have n0_ := Aside0.mk (blk_drew BK702.out)
              have n1_ := Aside0.mk (blk_drew BK703.out)
              have n2_ := Aside0.mk (blk_drew BK704.out)
              have n3_ := Aside0.mk (blk_drew BK705.out)
              have n4_ := Aside0.mk (below_drew1 HB.out)
              clear BK702 BK703 BK704 BK705 HB
              have BK702 := n0_
              have BK703 := n1_
              have BK704 := n2_
              have BK705 := n3_
              have HB := n4_
              clear n0_ n1_ n2_ n3_ n4_
              have p184 : 0 ≤ (x8_1 : Int) := of_decide_eq_true (by first | (with_reducible assumption) | assumption)
              have q184 : x8_1 < (l704.length : Int) := of_decide_eq_true (by first | (with_reducible assumption) | assumption)
              obtain ⟨ad184, e184, hx184⟩ := Kd.at_int HRr.out x8_1 p184 q184
              have hw184 := hx184
              cases e184
              replace hx184 := (HB.out.cell (World.block_lt_of_cell? wr _ hx184)).trans hx184
              replace p184 := eq_true p184
              replace q184 := eq_true q184
              refine start_ (n := 12) (S := fun w' => w'.cell? ⟨gb705, 0, none⟩ = some (.func (.func 162) #[] #[.pointer (some ⟨gb702, 0, none⟩), .pointer (some ⟨gb703, 0, none⟩), .pointer (some ⟨gb704, 0, none⟩), .pointer (some ⟨gb705, 0, none⟩)]) ∧ w'.cell? ⟨gb704, 0, none⟩ = some (.slice (some ad184) l704.length c704) ∧ w'.cell? (ad184.add (x8_1).toNat) = some (.int .i64 (rd l704 x8_1))) (ds := []) #[false, false, false, false, false, false, false, false, false, false, false, false] (by kernel_rfl) rfl rfl ⟨(blk_cell BK705.out 0).trans rfl, (blk_cell BK704.out 0).trans rfl, ((HB.out.cell (World.block_lt_of_cell? wr _ hw184)).trans hw184)⟩ (fun hHeld => ?_); refine with_tabW impl_chosen_1.tab5 impl_chosen_1.bits5 (fun HT_ HW_ => ?_)
              generalize wr.drew = w26 at BK702 BK703 BK704 BK705 HB hx184 hHeld ⊢
              refine pure_ (i := 1) (N := some 24) (v := ?_) (a' := ?_) #[false, true, false, false, false, false, false, false, false, false, false, false] rfl rfl (any_of HT_.out (by kernel_rfl)) (fun _ _ _ h => h) (Or.inl ⟨by rfl, ?_⟩) ?_ ?_
              rotate_left
              · intro w'
                go_simp
                with_reducible rfl
              rotate_left
              · simp only [Act.put, List.setIfInBounds_toArray, List.set_cons_zero, List.set_cons_succ, i64_w, i32_w]
                rfl
              refine pure_ (i := 2) (N := some 25) (v := ?_) (a' := ?_) #[false, true, true, false, false, false, false, false, false, false, false, false] rfl rfl (any_of HT_.out (by kernel_rfl)) (fun _ _ _ h => h) (Or.inl ⟨by rfl, ?_⟩) ?_ ?_
              rotate_left
              · intro w'
                go_simp
                with_reducible rfl
              rotate_left
              · simp only [Act.put, List.setIfInBounds_toArray, List.set_cons_zero, List.set_cons_succ, i64_w, i32_w]
                rfl
              refine pure_ (i := 3) (N := some 26) (v := ?_) (a' := ?_) #[false, true, true, true, false, false, false, false, false, false, false, false] rfl rfl (any_of HT_.out (by kernel_rfl)) (fun _ _ _ h => h) (Or.inl ⟨by rfl, ?_⟩) ?_ ?_
              rotate_left
              · intro w'
                go_simp
                with_reducible rfl
              rotate_left
              · simp only [Act.put, List.setIfInBounds_toArray, List.set_cons_zero, List.set_cons_succ, i64_w, i32_w]
                rfl
              refine pure_ (i := 6) (N := some 29) (v := ?_) (a' := ?_) #[false, true, true, true, false, false, true, false, false, false, false, false] rfl rfl (any_of HT_.out (by kernel_rfl)) (fun _ _ _ h => h) (Or.inl ⟨by rfl, ?_⟩) ?_ ?_
              rotate_left
              · intro w'
                go_simp
                with_reducible rfl
              rotate_left
              · simp only [Act.put, List.setIfInBounds_toArray, List.set_cons_zero, List.set_cons_succ, i64_w, i32_w]
                rfl
              refine take_ (i := 0) (N := some 23) (v := ?_) (a' := ?_) #[true, true, true, true, false, false, true, false, false, false, false, false] rfl rfl (take_ofW HT_.out HW_.out (by kernel_rfl)) (fun _ _ _ h => h) (Or.inl ⟨by rfl, ?_⟩) hHeld ?_ ?_
              rotate_left
              · rintro w' ⟨s0, s1, s2⟩
                go_simp
                with_reducible rfl
              rotate_left
              · simp only [Act.put, List.setIfInBounds_toArray, List.set_cons_zero, List.set_cons_succ, i64_w, i32_w]
                rfl
              refine take_ (i := 5) (N := some 28) (v := ?_) (a' := ?_) #[true, true, true, true, false, true, true, false, false, false, false, false] rfl rfl (take_ofW HT_.out HW_.out (by kernel_rfl)) (fun _ _ _ h => h) (Or.inl ⟨by rfl, ?_⟩) hHeld ?_ ?_
              rotate_left
              · rintro w' ⟨s0, s1, s2⟩
                go_simp
                with_reducible rfl
              rotate_left
              · simp only [Act.put, List.setIfInBounds_toArray, List.set_cons_zero, List.set_cons_succ, i64_w, i32_w]
                rfl
              refine pure_ (i := 7) (N := some 30) (v := ?_) (a' := ?_) #[true, true, true, true, false, true, true, true, false, false, false, false] rfl rfl (any_of HT_.out (by kernel_rfl)) (fun _ _ _ h => h) (Or.inl ⟨by rfl, ?_⟩) ?_ ?_
              rotate_left
              · intro w'
                go_simp
                with_reducible rfl
              rotate_left
              · simp only [Act.put, List.setIfInBounds_toArray, List.set_cons_zero, List.set_cons_succ, i64_w, i32_w]
                rfl
              refine take_ (i := 8) (N := some 31) (v := ?_) (a' := ?_) #[true, true, true, true, false, true, true, true, true, false, false, false] rfl rfl (take_ofW HT_.out HW_.out (by kernel_rfl)) (fun _ _ _ h => h) (Or.inl ⟨by rfl, ?_⟩) hHeld ?_ ?_
              rotate_left
              · rintro w' ⟨s0, s1, s2⟩
                go_simp
                with_reducible rfl
              rotate_left
              · simp only [Act.put, List.setIfInBounds_toArray, List.set_cons_zero, List.set_cons_succ, i64_w, i32_w]
                rfl
              refine join_ (σ := Value) 2 #[true, true, true, true, true, true, true, true, true, true, false, false] (fun s_ => [(27, .slice A1 l1.length l1.length), (32, s_)]) (fun s_ w' => (w'.cell? ⟨gb705, 0, none⟩ = some (.func (.func 162) #[] #[.pointer (some ⟨gb702, 0, none⟩), .pointer (some ⟨gb703, 0, none⟩), .pointer (some ⟨gb704, 0, none⟩), .pointer (some ⟨gb705, 0, none⟩)]) ∧ w'.cell? ⟨gb704, 0, none⟩ = some (.slice (some ad184) l704.length c704) ∧ w'.cell? (ad184.add (x8_1).toNat) = some (.int .i64 (rd l704 x8_1))) ∧ Kd.R (Kd.int .i64) 2 w' wr.heap.size (fun _ => True) s_ [rd l704 x8_1] ∧ (w'.heap[gb702]? = some (.cells #[.int .i64 s702_0] 3 (0, 0))) ∧ (w'.heap[gb703]? = some (.cells #[.func (.func G1) #[] lb1] 125 (0, 0))) ∧ (w'.heap[gb704]? = some (.cells #[.slice (some ad184) l704.length c704] 62 (0, 0))) ∧ (w'.heap[gb705]? = some (.cells #[.func (.func 162) #[] #[.pointer (some ⟨gb702, 0, none⟩), .pointer (some ⟨gb703, 0, none⟩), .pointer (some ⟨gb704, 0, none⟩), .pointer (some ⟨gb705, 0, none⟩)]] 148 (0, 0))) ∧ Below wr.heap.size wr w') ?_ ?_
              rotate_left
              · intro hCont
                refine two_ (i := 4) (j := 9) (Ni := some 27) (Nj := some 32) #[true, true, true, true, true, true, true, true, true, false, false, false] #[true, true, true, true, false, true, true, true, true, true, false, false] rfl rfl rfl rfl (two_of HT_.out (by kernel_rfl)) (by decide) (by decide) (fun K hK => ?_) (fun K hK => ?_)
                · skip
                  refine goes_ Try.func163 (by kernel_rfl) rfl #[.slice A1 l1.length c1] (by rfl) rfl rfl (by (try simp only [List.map_toArray, List.map_cons, List.map_nil]); first | done | rfl) ?_
                  refine (slices_Clip.calls A1 c1 l1 _ (Kd.C_below HR1r.out HB.out) HC1.out).mono ?_
                  rintro e w' ⟨rfl, ⟨nd, rfl⟩⟩
                  refine ⟨_, rfl, ?_⟩
                  have n0_ := Aside0.mk (blk_drewN BK702.out nd)
                  have n1_ := Aside0.mk (blk_drewN BK703.out nd)
                  have n2_ := Aside0.mk (blk_drewN BK704.out nd)
                  have n3_ := Aside0.mk (blk_drewN BK705.out nd)
                  have n4_ := Aside0.mk (pw_below_drewN HB.out nd)
                  clear BK702 BK703 BK704 BK705 HB
                  have BK702 := n0_
                  have BK703 := n1_
                  have BK704 := n2_
                  have BK705 := n3_
                  have HB := n4_
                  clear n0_ n1_ n2_ n3_ n4_
                  refine hK.out _ _ ⟨(blk_cell BK705.out 0).trans rfl, (blk_cell BK704.out 0).trans rfl, ((HB.out.cell (World.block_lt_of_cell? wr _ hw184)).trans hw184)⟩ (fun hHeld => ?_)
                  clear hK K
                  refine norm_ (a' := ?_) ?_ ?_
                  rotate_left
                  · show Act.put _ (some 27) _ = _
                    simp only [Act.put, List.setIfInBounds_toArray, List.set_cons_zero, List.set_cons_succ, i64_w, i32_w]
                    rfl
                  refine one_ (i := 9) (N := some 32) #[true, true, true, true, true, true, true, true, true, true, false, false] rfl rfl (one_of HT_.out (by kernel_rfl)) (by decide) (fun K hK => ?_)
                  refine Kd.R_lit_step (Kd.int .i64) _ 2 ?hg (N := 32) ?hd (xs := ([rd l704 x8_1] : List Int)) (inner := [.int .i64 (rd l704 x8_1)]) (ok := fun _ => True) (okp := fun _ => True) ?hr ?hp (fun _ hk => hk) trivial (Below.refl _ _) (Nat.le_refl _) (by simp) ?_; (case hd => rfl); (case hg => rfl); (case hr => first | (go_simp; done) | (go_simp; rfl)); (case hp => exact (Reps.one (show Kd.M (Kd.int .i64) _ _ _ (rd l704 x8_1) [.int .i64 (rd l704 x8_1)] from rfl) (Reps.none _ _)))
                  intro v186 w' ho hb hg_ hnew_
                  clear hg_ hnew_
                  have n5_ := Aside0.mk (Kd.R_lower ho (below_size HB.out))
                  have n0_ := Aside0.mk (blk_below BK702.out hb)
                  have n1_ := Aside0.mk (blk_below BK703.out hb)
                  have n2_ := Aside0.mk (blk_below BK704.out hb)
                  have n3_ := Aside0.mk (blk_below BK705.out hb)
                  have n4_ := Aside0.mk (below_step HB.out hb)
                  clear BK702 BK703 BK704 BK705 HB ho hb
                  have BK702 := n0_
                  have BK703 := n1_
                  have BK704 := n2_
                  have BK705 := n3_
                  have HB := n4_
                  have HO187 := n5_
                  clear n0_ n1_ n2_ n3_ n4_ n5_
                  refine hK.out _ _ ⟨(blk_cell BK705.out 0).trans rfl, (blk_cell BK704.out 0).trans rfl, ((HB.out.cell (World.block_lt_of_cell? wr _ hw184)).trans hw184)⟩ (fun hHeld => ?_)
                  clear hK K
                  refine norm_ (a' := ?_) ?_ ?_
                  rotate_left
                  · show Act.put _ (some 32) _ = _
                    simp only [Act.put, List.setIfInBounds_toArray, List.set_cons_zero, List.set_cons_succ, i64_w, i32_w]
                    rfl
                  exact norm_ (by simp only [putAll, Act.put, List.setIfInBounds_toArray, List.set_cons_zero, List.set_cons_succ]) (hCont v186 _ ⟨hHeld, HO187.out, BK702.out, BK703.out, BK704.out, BK705.out, HB.out⟩)
                · skip
                  refine Kd.R_lit_step (Kd.int .i64) _ 2 ?hg (N := 32) ?hd (xs := ([rd l704 x8_1] : List Int)) (inner := [.int .i64 (rd l704 x8_1)]) (ok := fun _ => True) (okp := fun _ => True) ?hr ?hp (fun _ hk => hk) trivial (Below.refl _ _) (Nat.le_refl _) (by simp) ?_; (case hd => rfl); (case hg => rfl); (case hr => first | (go_simp; done) | (go_simp; rfl)); (case hp => exact (Reps.one (show Kd.M (Kd.int .i64) _ _ _ (rd l704 x8_1) [.int .i64 (rd l704 x8_1)] from rfl) (Reps.none _ _)))
                  intro v186 w' ho hb hg_ hnew_
                  clear hg_ hnew_
                  have n5_ := Aside0.mk (Kd.R_lower ho (below_size HB.out))
                  have n0_ := Aside0.mk (blk_below BK702.out hb)
                  have n1_ := Aside0.mk (blk_below BK703.out hb)
                  have n2_ := Aside0.mk (blk_below BK704.out hb)
                  have n3_ := Aside0.mk (blk_below BK705.out hb)
                  have n4_ := Aside0.mk (below_step HB.out hb)
                  clear BK702 BK703 BK704 BK705 HB ho hb
                  have BK702 := n0_
                  have BK703 := n1_
                  have BK704 := n2_
                  have BK705 := n3_
                  have HB := n4_
                  have HO187 := n5_
                  clear n0_ n1_ n2_ n3_ n4_ n5_
                  refine hK.out _ _ ⟨(blk_cell BK705.out 0).trans rfl, (blk_cell BK704.out 0).trans rfl, ((HB.out.cell (World.block_lt_of_cell? wr _ hw184)).trans hw184)⟩ (fun hHeld => ?_)
                  clear hK K
                  refine norm_ (a' := ?_) ?_ ?_
                  rotate_left
                  · show Act.put _ (some 32) _ = _
                    simp only [Act.put, List.setIfInBounds_toArray, List.set_cons_zero, List.set_cons_succ, i64_w, i32_w]
                    rfl
                  refine one_ (i := 4) (N := some 27) #[true, true, true, true, true, true, true, true, true, true, false, false] rfl rfl (one_of HT_.out (by kernel_rfl)) (by decide) (fun K hK => ?_)
                  refine goes_ Try.func163 (by kernel_rfl) rfl #[.slice A1 l1.length c1] (by rfl) rfl rfl (by (try simp only [List.map_toArray, List.map_cons, List.map_nil]); first | done | rfl) ?_
                  refine (slices_Clip.calls A1 c1 l1 _ (Kd.C_below HR1r.out HB.out) HC1.out).mono ?_
                  rintro e w' ⟨rfl, ⟨nd, rfl⟩⟩
                  refine ⟨_, rfl, ?_⟩
                  have n0_ := Aside0.mk (blk_drewN BK702.out nd)
                  have n1_ := Aside0.mk (blk_drewN BK703.out nd)
                  have n2_ := Aside0.mk (blk_drewN BK704.out nd)
                  have n3_ := Aside0.mk (blk_drewN BK705.out nd)
                  have n4_ := Aside0.mk (pw_below_drewN HB.out nd)
                  have n5_ := Aside0.mk (Kd.R_drewN HO187.out nd)
                  clear BK702 BK703 BK704 BK705 HB HO187
                  have BK702 := n0_
                  have BK703 := n1_
                  have BK704 := n2_
                  have BK705 := n3_
                  have HB := n4_
                  have HO187 := n5_
                  clear n0_ n1_ n2_ n3_ n4_ n5_
                  refine hK.out _ _ ⟨(blk_cell BK705.out 0).trans rfl, (blk_cell BK704.out 0).trans rfl, ((HB.out.cell (World.block_lt_of_cell? wr _ hw184)).trans hw184)⟩ (fun hHeld => ?_)
                  clear hK K
                  refine norm_ (a' := ?_) ?_ ?_
                  rotate_left
                  · show Act.put _ (some 27) _ = _
                    simp only [Act.put, List.setIfInBounds_toArray, List.set_cons_zero, List.set_cons_succ, i64_w, i32_w]
                    rfl
                  exact norm_ (by simp only [putAll, Act.put, List.setIfInBounds_toArray, List.set_cons_zero, List.set_cons_succ]) (hCont v186 _ ⟨hHeld, HO187.out, BK702.out, BK703.out, BK704.out, BK705.out, HB.out⟩)
              rintro v186 w30 ⟨hS_, h0_, h1_, h2_, h3_, h4_, h5_⟩
              clear BK702 BK703 BK704 BK705 HB
              have HO187 : Aside0 (Kd.R (Kd.int .i64) 2 w30 wr.heap.size (fun _ => True) v186 [rd l704 x8_1]) := ⟨h0_⟩
              have BK702 : Aside0 (w30.heap[gb702]? = some (.cells #[.int .i64 s702_0] 3 (0, 0))) := ⟨h1_⟩
              have BK703 : Aside0 (w30.heap[gb703]? = some (.cells #[.func (.func G1) #[] lb1] 125 (0, 0))) := ⟨h2_⟩
              have BK704 : Aside0 (w30.heap[gb704]? = some (.cells #[.slice (some ad184) l704.length c704] 62 (0, 0))) := ⟨h3_⟩
              have BK705 : Aside0 (w30.heap[gb705]? = some (.cells #[.func (.func 162) #[] #[.pointer (some ⟨gb702, 0, none⟩), .pointer (some ⟨gb703, 0, none⟩), .pointer (some ⟨gb704, 0, none⟩), .pointer (some ⟨gb705, 0, none⟩)]] 148 (0, 0))) := ⟨h4_⟩
              have HB : Aside0 (Below wr.heap.size wr w30) := ⟨h5_⟩
              clear h0_ h1_ h2_ h3_ h4_ h5_
              have hHeld : w30.cell? ⟨gb705, 0, none⟩ = some (.func (.func 162) #[] #[.pointer (some ⟨gb702, 0, none⟩), .pointer (some ⟨gb703, 0, none⟩), .pointer (some ⟨gb704, 0, none⟩), .pointer (some ⟨gb705, 0, none⟩)]) ∧ w30.cell? ⟨gb704, 0, none⟩ = some (.slice (some ad184) l704.length c704) ∧ w30.cell? (ad184.add (x8_1).toNat) = some (.int .i64 (rd l704 x8_1)) := hS_
              obtain ⟨Ao32, co32, eo32⟩ := Kd.R_slice HO187.out
              subst eo32
              obtain ⟨ad32, e32, hx32⟩ := Kd.at_int (Kd.R_reads' HO187.out).2.2 0 (by decide) (by simp)
              have hy32 : w30.cell? ad32 = some (.int .i64 (rd l704 x8_1)) := by simpa [Addr.add, rd] using hx32
              cases e32
              refine norm_ (a' := ?_) ?_ ?_
              rotate_left
              · simp only [putAll, Act.put, List.setIfInBounds_toArray, List.set_cons_zero, List.set_cons_succ]
                rfl
              refine one_ (i := 10) (N := some 33) #[true, true, true, true, true, true, true, true, true, true, true, false] rfl rfl (one_of HT_.out (by kernel_rfl)) (by decide) (fun K hK => ?_)
              refine app_full_step w30 rfl (by rfl) (.tmp 27) (.tmp 32) 62 rfl 2 i0 .i64 8 Try.underlying62 INF.out.1 INF.out.2.1 INF.out.2.2.1 INF.out.2.2.2 (by decide) A1 l1 rfl (Kd.C_below HR1r.out HB.out) ad32 co32 (rd l704 x8_1) rfl hy32 (by have := LM.out; omega) ?_
              intro g cap w31 hC1 hcap hg hg2 hgr
              have hb := below_app (Below.refl w30.heap.size w30) hgr
              have n5_ := Aside0.mk hC1
              have n6_ := Aside0.mk hcap
              have n7_ := Aside0.mk (show wr.heap.size ≤ g from Nat.le_trans (below_size HB.out) hg)
              have n0_ := Aside0.mk (blk_below BK702.out hb)
              have n1_ := Aside0.mk (blk_below BK703.out hb)
              have n2_ := Aside0.mk (blk_below BK704.out hb)
              have n3_ := Aside0.mk (blk_below BK705.out hb)
              have n4_ := Aside0.mk (below_step HB.out hb)
              clear BK702 BK703 BK704 BK705 HB hb hC1 hcap hg hg2 hgr HO187 hx32 hy32
              have BK702 := n0_
              have BK703 := n1_
              have BK704 := n2_
              have BK705 := n3_
              have HB := n4_
              have HCn := n5_
              have HLn := n6_
              have HGn := n7_
              clear n0_ n1_ n2_ n3_ n4_ n5_ n6_ n7_
              refine hK.out _ _ ⟨(blk_cell BK705.out 0).trans rfl, (blk_cell BK704.out 0).trans rfl, ((HB.out.cell (World.block_lt_of_cell? wr _ hw184)).trans hw184)⟩ (fun hHeld => ?_)
              clear hK K
              refine norm_ (a' := ?_) ?_ ?_
              rotate_left
              · show Act.put _ (some 33) _ = _
                simp only [Act.put, List.setIfInBounds_toArray, List.set_cons_zero, List.set_cons_succ, i64_w, i32_w]
                rfl
              refine one_ (i := 11) (N := some 34) #[true, true, true, true, true, true, true, true, true, true, true, true] rfl rfl (one_of HT_.out (by kernel_rfl)) (by decide) (fun K hK => ?_)
              refine goesV_ (EnterF.of Try.func162 (by kernel_rfl) rfl) #[.int .i64 (wrap64 (x8_1 + 1)), .slice (some ⟨g, 0, none⟩) (l1 ++ [rd l704 x8_1]).length cap] (by rfl) rfl rfl rfl (by (try simp only [List.map_toArray, List.map_cons, List.map_nil]); first | done | rfl) ?_
              have hcall := ih k (Nat.lt_succ_self k) (wrap64 (x8_1 + 1)) (some ⟨g, 0, none⟩) cap (l1 ++ [rd l704 x8_1]) s1 s2 w31 BK702.out BK703.out BK704.out BK705.out (Kd.C_below HRr.out HB.out) HCn.out HLn.out (fun ad e hm => by cases e; have h1 := HM.out _ hm; have h2 := HBut.out.size; have h3 := HBut0.out.size; have h4 := HGn.out; simp only at h1; omega) (hI.out _ _ _ HI.out HB.out) ((HBut0.out.trans HBut.out).trans (But.of_below HB.out)) A21.out
              refine Calls.mono hcall ?_
              clear hcall
              rintro e w34 ⟨rfl, hi2, hb2⟩
              refine ⟨_, rfl, ?_⟩
              have n0_ := Aside0.mk (hb2.blk BK702.out m702.out)
              have n1_ := Aside0.mk (hb2.blk BK703.out m703.out)
              have n2_ := Aside0.mk (hb2.blk BK704.out m704.out)
              have n3_ := Aside0.mk (hb2.blk BK705.out m705.out)
              have n4_ := Aside0.mk ((But.of_below (M := M) HB.out).trans hb2)
              have hcell := hb2.cell ((HB.out.cell (World.block_lt_of_cell? wr _ hw184)).trans hw184) (by rw [add_block]; exact mA.out ad184 rfl)
              clear BK702 BK703 BK704 BK705 HB
              have BK702 := n0_
              have BK703 := n1_
              have BK704 := n2_
              have BK705 := n3_
              have HBt := n4_
              clear n0_ n1_ n2_ n3_ n4_
              have HI2 := Aside0.mk hi2
              clear hi2 hb2
              refine hK.out _ _ ⟨(blk_cell BK705.out 0).trans rfl, (blk_cell BK704.out 0).trans rfl, hcell⟩ (fun hHeld => ?_)
              clear hK K
              refine norm_ (a' := ?_) ?_ ?_
              rotate_left
              · show Act.put _ (some 34) _ = _
                simp only [Act.put, List.setIfInBounds_toArray, List.set_cons_zero, List.set_cons_succ, i64_w, i32_w]
                rfl
              refine done_ (done_of HT_.out (by kernel_rfl)) ?_
              try go_wp2
              go_roundg k1
              case measure => have := HK1.out; omega
              case rel => exact ⟨(wrap64 (x8_1 + 1)), s2, rfl, H', ⟨by have := HK1.out; omega⟩, BK702, BK703, BK704, BK705, HI2, ⟨HBut.out.trans HBt.out⟩⟩
            · rw [if_neg c20] at H
              exact absurd H (by simp)
          · rw [if_neg c19] at H
            exact absurd H (by simp)
        · rw [if_neg c17] at H
          have c17b0 : decide (x8_1 < (l704.length : Int)) = false := decide_eq_false c17
          obtain rfl : s1 = a' := by simpa using H
          clear c17 H
          go_wp2
          first | go_end0 | ((try simp only [Exit.inBlock, Exit.then]); refine bodyPost_ret (results_none rfl _ _ _) rfl ?_)
          exact ⟨rfl, HI.out, HBut.out⟩

end Go.Proofs.Ytcepbgffnneagaa.Q
end
