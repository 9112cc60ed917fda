/- Contracts of Go functions and plain lemmas over what they compute; printed by the kit's print program or written by hand, joined. -/
import Derived.Test.YtjemkdpffjneaaaBFnBuilt3
import Derived.Maps.OwnOps
import Derived.Maps.Views
import Derived.ArgAppend
import Derived.Test.YtjemkdpffjneaaaProg
import Derived.Below
import Derived.Deep.Draws
import Derived.Deep.AppendLies
import Derived.Maps.AppendAt
import Derived.OwnWalk
import Derived.Laws.BytesArg
import Derived.Laws.MakeOwn
import Derived.Laws.OwnMore
import Derived.Deep.OwnRows
import Derived.Tactics
import Derived.Lib.ConvBytes
import Derived.Laws.Slices
import Derived.WalkKit
import Derived.KernelRfl
import Derived.RowKit3
import Derived.Deep.LoopGhost
import Derived.Deep.QuietTactic
import Derived.BigQuiet
import Derived.WideLaws
import Derived.Deep.DeepCutAuto
import Derived.Deep.CutBlock
import Derived.Deep.RegionHeld3
import Derived.Laws.Rows
import Derived.Lib.AppendStr
import Derived.Laws.IdiomCopy
import Derived.OrdersHeld
import Derived.Laws.BitsLemmas
import Derived.RowKit
import Derived.Test.YtjemkdpffjneaaaBFnBuilt1
import Derived.Test.YtjemkdpffjneaaaBFnBuilt2
section
namespace Go.Proofs.YtjemkdpffjneaaaW.PrintWords
open Go Go.RowKit
set_option linter.unusedVariables false
/-- The program enters function G, called through a value. -/
def EnterF (P : Program) (G : FuncId) : Prop := ∀ (args : Array Value) (w : World), (callFunc G args).run P w = .ok (.enter G args) w
theorem EnterF.of {P : Program} {f : FuncId} {fn : Func} (hf : P.funcs[f]? = some fn) (hname : (fn.name == "runtime.NumGoroutine") = false) (hb : fn.body.isSome = true) : EnterF P f := fun args w => PrintLast.enters_ hf hname hb args w
section
variable {P : Program} {ops : Array Oper} {Q : Exit → Act → World → Prop}
theorem gate_value {o : Oper} {rest : List Oper} {a : Act} {W : World} {t : Tmp} {os_ : Array Operand} {ts : Array TypeId} (_ho : o.op = .call { callee := .value (.tmp t), args := os_, argTypes := ts }) (h : wpList P ops Q (o :: rest) a W) : wpList P ops Q (o :: rest) a W := h
/-- A call of a function value that lies in a slot. -/
theorem goesF_ {rest : List Oper} {oi : Oper} {a : Act} {w : World} (N : Option Tmp) (hd : oi.dst = N) (hg : oi.guard = none) {G : FuncId} {lb : Array Value} {fo : Operand} {os_ : Array Operand} {ts : Array TypeId} (eg : EnterF P G) (args : Array Value)
    (hop : oi.op = .call { callee := .value fo, args := os_, argTypes := ts }) (hf : a.eval fo = .func (.func G) #[] lb) (hargs : os_.map a.eval = args)
    (h : Calls P G (args ++ lb) w fun e w' => ∃ v, e = .returned v ∧ wpList P ops Q rest (a.put N v) w') : wpList P ops Q (oi :: rest) a w := by
  refine wpList_plain hg fun K hK => ?_
  have he := eg (args ++ lb) w
  have hrun : (execOp a.eval oi).run P w = .ok (.enter G (args ++ lb)) w := by
    unfold execOp
    simp [hop, resolve, Deferred.ofValue, invoke, hf, hargs, he]
  unfold Oper.wp
  rw [hrun, Oper.upon_enter]
  refine h.mono fun e w'' hh => ?_
  obtain ⟨v, rfl, hk⟩ := hh
  subst hd
  exact hK _ _ hk
end
theorem below_via {W0 w W : World} (h : Below W0.heap.size W0 w) (k : Below w.heap.size w W) : Below W0.heap.size W0 W := h.trans (k.mono h.size)
/-- w' is w with new blocks, and with changes in blocks of M alone. -/
structure But (M : Nat → Prop) (w w' : World) : Prop where
  os : w'.os = w.os
  tape : w'.tape = w.tape
  output : w'.output = w.output
  size : w.heap.size ≤ w'.heap.size
  block : ∀ i, i < w.heap.size → ¬ M i → w'.heap[i]? = w.heap[i]?
namespace But
variable {M M' : Nat → Prop} {w w1 w2 : World}
theorem refl (M : Nat → Prop) (w : World) : But M w w := ⟨rfl, rfl, rfl, Nat.le_refl _, fun _ _ _ => rfl⟩
theorem trans (h : But M w w1) (k : But M w1 w2) : But M w w2 := ⟨k.os.trans h.os, k.tape.trans h.tape, k.output.trans h.output, Nat.le_trans h.size k.size, fun i hi hm => (k.block i (Nat.lt_of_lt_of_le hi h.size) hm).trans (h.block i hi hm)⟩
theorem mono (h : But M w w1) (hM : ∀ i, i < w.heap.size → M i → M' i) : But M' w w1 := ⟨h.os, h.tape, h.output, h.size, fun i hi hm => h.block i hi fun hk => hm (hM i hi hk)⟩
theorem of_below (h : Below w.heap.size w w1) : But M w w1 := ⟨h.os, h.tape, h.output, h.size, fun i hi _ => h.block i hi⟩
/-- What may have changed lies beyond w: then w lies as it was. -/
theorem below (h : But M w w1) (hM : ∀ i, i < w.heap.size → ¬ M i) : Below w.heap.size w w1 := ⟨h.os, h.tape, h.output, h.size, fun i hi => h.block i hi (hM i hi)⟩
theorem set (h : But M w w1) {g : Nat} (hg : M g ∨ w.heap.size ≤ g) (j : Nat) (u : Value) : But M w (w1.setCell ⟨g, j, none⟩ u) := by
  have hz : (w1.setCell ⟨g, j, none⟩ u).heap.size = w1.heap.size := by simp [World.setCell]
  refine ⟨h.os, h.tape, h.output, by rw [hz]; exact h.size, fun i hi hm => ?_⟩
  have hne : i ≠ g := by rintro rfl; rcases hg with hg | hg; exact hm hg; omega
  exact (Below.heap_setCell w1 ⟨g, j, none⟩ u i hne).trans (h.block i hi hm)
theorem blk (h : But M w w1) {g : Nat} {o : Obj} (hb : w.heap[g]? = some o) (hg : ¬ M g) : w1.heap[g]? = some o := (h.block g (blk_lt hb) hg).trans hb
end But
end Go.Proofs.YtjemkdpffjneaaaW.PrintWords
end

section
namespace Go.Proofs.YtjemkdpffjneaaaW.PrintWords
open Go Go.RowKit Go.Maps
set_option linter.unusedVariables false
/-- The map holds the keys of s, each with 'true'. -/
def Seen (P : Program) (k e : TypeId) (w : World) (b n : Nat) (s : List Int) : Prop :=
  ∃ D : DataW Unit, w.ownsMap P k (plainElem P e) b n D ∧ IsMap D ∧ ∀ x : Int, D.atKey (.int .i64 x) (.lit (.bool false)) = .lit (.bool (decide (x ∈ s)))
theorem Seen.made (P : Program) (k e : TypeId) (w : World) : Seen P k e (w.alloc (.map #[] 0)) w.heap.size 0 [] :=
  ⟨.map [], World.ownsMap_made _ _ _ _, ⟨[], rfl⟩, fun x => rfl⟩
theorem Seen.below {P : Program} {k e : TypeId} {w w' : World} {b n : Nat} {s : List Int} (h : Seen P k e w b n s) (hw : w'.heap = w.heap) : Seen P k e w' b n s := by
  obtain ⟨D, ⟨es, clock, hb, r⟩, h2⟩ := h
  exact ⟨D, ⟨es, clock, by rw [hw]; exact hb, r⟩, h2⟩
end Go.Proofs.YtjemkdpffjneaaaW.PrintWords
end

section
namespace Go.Proofs.YtjemkdpffjneaaaW.PrintWords
open Go Go.RowKit
set_option linter.unusedVariables false
theorem But.kept {M : Nat → Prop} {w w' : World} (h : But M w w') : Kept w w' M := ⟨h.size, fun i hi hm => h.block i hi hm⟩
theorem But.C_int {M : Nat → Prop} {w w' : World} {k : IntKind} {A : Option Addr} {n : Nat} {l : List Int} (h : But M w w') (hC : Kd.C (Kd.int k) w A n l) (hA : ∀ ad, A = some ad → ¬ M ad.block) : Kd.C (Kd.int k) w' A n l := by
  refine ⟨hC.1, hC.2.1, fun hn => ?_⟩
  obtain ⟨ad, he, hc⟩ := hC.2.2 hn
  refine ⟨ad, he, fun j p hj => ?_⟩
  obtain ⟨cs, h1, h2, h3⟩ := hc j p hj
  exact ⟨cs, h1, h2, fun i u hu => cell_kept (h3 i u hu) h.kept (by rw [add_block]; exact hA ad he)⟩
theorem But.cell {M : Nat → Prop} {w w' : World} (h : But M w w') {ad : Addr} {v : Value} (hc : w.cell? ad = some v) (hm : ¬ M ad.block) : w'.cell? ad = some v := cell_kept hc h.kept hm
theorem below_app {w wa w1 : World} (h : Below w.heap.size w wa) (hg : wa.grownBy w1 none) : Below w.heap.size w w1 := h.grown hg h.size (fun k e => by cases e)
theorem below_but {w W w' : World} {g : Nat} (h : Below w.heap.size w W) (k : But (fun i => i = g) W w') (hg : w.heap.size ≤ g) : Below w.heap.size w w' :=
  ((But.of_below (M := fun i => i = g) h).trans k).below fun i hi e => by omega
theorem cell_alloc (w : World) (v : Value) (e : TypeId) : (w.alloc (.cells #[v] e (0, 0))).cell? ⟨w.heap.size, 0, none⟩ = some v := (blk_cell (heap_alloc_new w _) 0).trans rfl
/-- A row of whole numbers that the call owns, read. -/
theorem C_of_owns {w : World} {base e n : Nat} {k : IntKind} {v : Value} {l : List Int} (h : w.ownsRow base e 1 v n (l.map (.int k))) (hn : 0 < n) (hl : l.length = n) :
    ∃ g cap, v = .slice (some ⟨g, 0, none⟩) n cap ∧ base ≤ g ∧ g < w.heap.size ∧ n ≤ cap ∧ Kd.C (Kd.int k) w (some ⟨g, 0, none⟩) n l := by
  have hcells := fun g => h.cells (g := g)
  have hlt := h.lt
  obtain ⟨hlen, h | ⟨g, cap, cur, rfl, hb, hg, hnc, hcm, _, _⟩⟩ := h
  · omega
  refine ⟨g, cap, rfl, hb, (hlt g rfl).2, hnc, hl, by unfold maxLen at hcm; omega, fun _ => ⟨_, rfl, fun j p hj => ⟨[.int k p], rfl, rfl, fun i u hu => ?_⟩⟩⟩
  obtain ⟨rfl, rfl⟩ : i = 0 ∧ u = .int k p := by
    cases i with
    | zero => exact ⟨rfl, by simpa using hu.symm⟩
    | succ i => simp at hu
  exact hcells g rfl _ _ (by rw [Nat.add_zero]; show (l.map (Value.int k))[j * 1]? = _; rw [Nat.mul_one, List.getElem?_map, hj]; rfl)
theorem app_full_step {P : Program} (w : World) {ops : Array Oper} {o : Oper} {a : Act} {Q : Exit → Act → World → Prop} {K : Act → World → Prop} {N : Option Tmp} (hN : o.dst = N)
    (hw : Region.wanted o (yielded ops a.tmps) = true) (s x : Operand) (t : TypeId) (hop : o.op = Op.call { callee := Callee.builtin Builtin.append, args := #[s, x], argTypes := #[t, t] })
    (e : TypeId) (i : TypeInfo) (k : IntKind) (bytes : Nat) (h1 : P.underlying t = some (.slice e)) (h2 : P.info? e = some i) (h3 : i.zero = some (.int k 0)) (h4 : i.size = 1) (h5 : i.bytes = bytes) (h6 : bytes ≤ 8)
    (A : Option Addr) (l : List Int) (hs : a.eval s = .slice A l.length l.length) (hC : Kd.C (Kd.int k) w A l.length l)
    (ad : Addr) (c : Nat) (y : Int) (hx : a.eval x = .slice (some ad) 1 c) (hc : w.cell? ad = some (.int k y)) (hl : l.length ≤ 1000)
    (hK : ∀ g cap w', Kd.C (Kd.int k) w' (some ⟨g, 0, none⟩) (l ++ [y]).length (l ++ [y]) → (l ++ [y]).length ≤ cap → w.heap.size ≤ g → g < w'.heap.size → w.grownBy w' none → K (a.put N (.slice (some ⟨g, 0, none⟩) (l ++ [y]).length cap)) w') :
    if Region.wanted o (yielded ops a.tmps) = true then Oper.wp P o a w K Q else K (a.put N undef) w := by
  subst hN
  rw [if_pos hw]
  have hlen : (l ++ [y]).length = l.length + 1 := by simp
  have hnews : ∀ j u, [Value.int k y][j]? = some u → w.cell? (ad.add j) = some u := by
    intro j u hj
    cases j with
    | zero => simp at hj; subst hj; show w.cell? ⟨ad.block, ad.off + 0, ad.spot⟩ = _; rw [Nat.add_zero]; exact hc
    | succ j => simp at hj
  have fin : ∀ v' w', w'.ownsRow w.heap.size e 1 v' (l.length + 1) (l.map (.int k) ++ [.int k y]) → w.grownBy w' none → K (a.put o.dst v') w' := by
    intro v' w' r1 r2
    have r1' : w'.ownsRow w.heap.size e 1 v' (l.length + 1) ((l ++ [y]).map (.int k)) := by simpa using r1
    obtain ⟨g, cap, rfl, hg, hg2, hcap, hC'⟩ := C_of_owns r1' (Nat.succ_pos _) hlen
    have := hK g cap w' (by rw [hlen]; exact hC') (by rw [hlen]; exact hcap) hg hg2 r2
    rwa [hlen] at this
  have b1 : l.length + 1 ≤ maxLen := by unfold maxLen; omega
  have b2 : (l.length + 1) * bytes ≤ 140737488355328 := Nat.le_trans (Nat.mul_le_mul (show l.length + 1 ≤ 1001 by omega) h6) (by omega)
  cases A with
  | some b =>
    have holds : ∀ j u, (l.map (Value.int k))[j]? = some u → w.cell? (b.add j) = some u := by
      intro j u hj
      rw [List.getElem?_map] at hj
      rcases hp : l[j]? with _ | p
      · rw [hp] at hj; cases hj
      rw [hp] at hj
      have hj2 := (List.getElem?_eq_some_iff.1 hp).1
      obtain ⟨ad2, e2, hc2⟩ := hC.2.2 (by omega)
      cases e2
      obtain ⟨cs, h1, h2, h3⟩ := hc2 j p hp
      obtain rfl : cs = [.int k p] := h2
      have := h3 0 _ rfl
      simp at hj; subst hj
      simpa [show (Kd.int k).sz = 1 from rfl] using this
    obtain ⟨v', w', hrun, r1, r2⟩ := run_append_arg_grows (P := P) w t o.type e i (.int k 0) 1 bytes h1 h2 h3 h4 h5 rfl (by decide) b l.length l.length (l.map (.int k)) (by simp) holds ad 1 c [.int k y] rfl hnews (by omega) b1 b2
    unfold Oper.wp
    simp [execOp, hop, resolve, invoke, builtin, hs, hx, hrun, Result.andThen]
    exact (fin v' w' r1 r2)
  | none =>
    have hl0 : l = [] := by
      cases l with
      | nil => rfl
      | cons a_ t_ => obtain ⟨ad2, e2, _⟩ := hC.2.2 (by simp); cases e2
    subst hl0
    obtain ⟨v', w', hrun, r1, r2, _⟩ := run_append_own (P := P) w w.heap.size t o.type e i (.int k 0) 1 bytes h1 h2 h3 h4 h5 rfl (by decide) (.slice none 0 0) 0 [] (World.ownsRow_nil w _ e 1) ad 1 c [.int k y] rfl hnews (by simp [Value.oneCell']) (by unfold maxLen; omega) (by omega) (Nat.le_refl _)
    unfold Oper.wp
    simp only [List.length_nil] at hs
    simp [execOp, hop, resolve, invoke, builtin, hs, hx, hrun, Result.andThen]
    exact (fin v' w' (by simpa using r1) r2)
theorem wpList_app_full {P : Program} (w : World) {ops : Array Oper} {rest : List Oper} {o : Oper} {a : Act} {Q : Exit → Act → World → Prop}
    (hw : Region.wanted o (yielded ops a.tmps) = true) (s x : Operand) (t : TypeId) (hop : o.op = Op.call { callee := Callee.builtin Builtin.append, args := #[s, x], argTypes := #[t, t] })
    (e : TypeId) (i : TypeInfo) (k : IntKind) (bytes : Nat) (h1 : P.underlying t = some (.slice e)) (h2 : P.info? e = some i) (h3 : i.zero = some (.int k 0)) (h4 : i.size = 1) (h5 : i.bytes = bytes) (h6 : bytes ≤ 8)
    (A : Option Addr) (l : List Int) (hs : a.eval s = .slice A l.length l.length) (hC : Kd.C (Kd.int k) w A l.length l)
    (ad : Addr) (c : Nat) (y : Int) (hx : a.eval x = .slice (some ad) 1 c) (hc : w.cell? ad = some (.int k y)) (hl : l.length ≤ 1000)
    (hK : ∀ g cap w', Kd.C (Kd.int k) w' (some ⟨g, 0, none⟩) (l ++ [y]).length (l ++ [y]) → (l ++ [y]).length ≤ cap → w.heap.size ≤ g → g < w'.heap.size → w.grownBy w' none → wpList P ops Q rest (a.put o.dst (.slice (some ⟨g, 0, none⟩) (l ++ [y]).length cap)) w') :
    wpList P ops Q (o :: rest) a w :=
  wpList_step fun K hK' => app_full_step w rfl hw s x t hop e i k bytes h1 h2 h3 h4 h5 h6 A l hs hC ad c y hx hc hl fun g cap w' c1 c2 c3 c4 c5 => hK' _ _ (hK g cap w' c1 c2 c3 c4 c5)
end Go.Proofs.YtjemkdpffjneaaaW.PrintWords
end

section
namespace Go.Proofs.Ytjemkdpffjneaaa.Q
open Go.RowKit Go.Proofs.YtjemkdpffjneaaaW.PrintWords Go.Proofs.YtjemkdpffjneaaaW.PrintLast Go.Proofs.YtjemkdpffjneaaaW.PrintMore
attribute [local go_sem] max2_int min2_int max_two min_two max_three min_three max_four min_four   -- for this text's walks alone
set_option linter.unusedVariables false
set_option linter.unusedSimpArgs false



def errW : Option Int → Value
  | none => .nilIface
  | some c => .iface 0 (.int .i64 c)
theorem errW_none : errW none = .nilIface := rfl
theorem errW_some (c : Int) : errW (some c) = .iface 0 (.int .i64 c) := rfl

theorem info2 : (Try.prog.info? 2).map (fun i => (i.zero, i.size, i.bytes)) = some (some (.int .i64 0), 1, 8) := by kernel_rfl
theorem info135 : (Try.prog.info? 135).map (fun i => (i.zero, i.size, i.bytes)) = some (some (.agg #[(.int .i64 0), (.int .i64 0)]), 2, 16) := by kernel_rfl
-- the values' own types
structure S33 where
  f0 : Int
  f1 : Int
structure S30 where
  f0 : Int
  f1 : Int
structure S32 where
  f0 : Int
  f1 : S30
structure S35 where
  f0 : Int
  f1 : S33
structure S135 where
  f0 : Int
  f1 : Int
def k135 : Kd S135 := Kd.iso (Kd.pair (Kd.int .i64) (Kd.int .i64)) (fun x : S135 => (x.f0, x.f1))
theorem k135_mkM (w : World) (base : Nat) (ok : Nat → Prop) (x : S135)  : k135.M w base ok x [.int .i64 x.f0, .int .i64 x.f1] := ⟨[.int .i64 x.f0], [.int .i64 x.f1], rfl, rfl, rfl⟩
end Go.Proofs.Ytjemkdpffjneaaa.Q
end

section
namespace Go.Proofs.Ytjemkdpffjneaaa.Q
open Go.RowKit Go.Proofs.YtjemkdpffjneaaaW.PrintWords Go.Proofs.YtjemkdpffjneaaaW.PrintLast Go.Proofs.YtjemkdpffjneaaaW.PrintMore
attribute [local go_sem] max2_int min2_int max_two min_two max_three min_three max_four min_four   -- for this text's walks alone
set_option linter.unusedVariables false
set_option linter.unusedSimpArgs false

def laws_a2Long.f (l0 : List Int) (l1 : List Int) : Option (Bool) := if (l0.length : Int) > 3000 then (some true) else (some (decide ((l1.length : Int) > 3000)))
set_option maxHeartbeats 8000000 in
set_option maxRecDepth 100000 in
theorem laws_a2Long.calls (A0 : Option Addr) (c0 : Nat) (l0 : List Int) (A1 : Option Addr) (c1 : Nat) (l1 : List Int) (r : Bool) (w : World) (hr0 : Kd.C (Kd.int .u8) w A0 l0.length l0) (hc0 : l0.length ≤ c0) (hr1 : Kd.C (Kd.int .u8) w A1 l1.length l1) (hc1 : l1.length ≤ c1) (h : laws_a2Long.f l0 l1 = some r) :
    Calls Try.prog 53 #[.slice A0 l0.length c0, .slice A1 l1.length c1] w fun e w' => e = .returned (.bool r) ∧ Drawn0 w w' := by
  have HR0 := Aside0.mk hr0
  have HC0 := Aside0.mk hc0
  clear hr0 hc0
  have HR1 := Aside0.mk hr1
  have HC1 := Aside0.mk hc1
  clear hr1 hc1
  have H : (if (l0.length : Int) > 3000 then (some true) else (some (decide ((l1.length : Int) > 3000)))) = some r := h
  clear h
  by_cases c3 : (l0.length : Int) > 3000
  · rw [if_pos c3] at H
    have c3b0 : decide (3000 < (l0.length : Int)) = true := decide_eq_true c3
    have c3b1 : decide (3000 < l0.length) = true := decide_eq_true (by omega)
    clear c3
    obtain rfl := Option.some.inj H
    go_enter Try.func53, Try.ntmps53
    go_wp2
    go_ret
    exact ⟨by first | rfl | (simp; done) | (simp [*]; done), by repeat (first | exact Drawn0.refl _ | apply Drawn0.step)⟩
  · rw [if_neg c3] at H
    have c3b0 : decide (3000 < (l0.length : Int)) = false := decide_eq_false c3
    have c3b1 : decide (3000 < l0.length) = false := decide_eq_false (by omega)
    clear c3
    obtain rfl := Option.some.inj H
    go_enter Try.func53, Try.ntmps53
    go_wp2
    go_ret
    exact ⟨by first | rfl | (simp; done) | (simp [*]; done), by repeat (first | exact Drawn0.refl _ | apply Drawn0.step)⟩

end Go.Proofs.Ytjemkdpffjneaaa.Q
end

section
namespace Go.Proofs.Ytjemkdpffjneaaa.Q
open Go.RowKit Go.Proofs.YtjemkdpffjneaaaW.PrintWords Go.Proofs.YtjemkdpffjneaaaW.PrintLast Go.Proofs.YtjemkdpffjneaaaW.PrintMore
attribute [local go_sem] max2_int min2_int max_two min_two max_three min_three max_four min_four   -- for this text's walks alone
set_option linter.unusedVariables false
set_option linter.unusedSimpArgs false

def laws_a2At.f (l0 : List Int) (a1 : Int) (a2 : Int) : Option (Int) := if a1 ≥ (l0.length : Int) then (some 0) else (if a2 < 1 then (some 0) else (if 0 ≤ a1 then (if a1 < (l0.length : Int) then (if a2 = 0 then (none) else (some (Int.tmod (wrap64 (rd l0 a1)) a2))) else (none)) else (none)))
set_option maxHeartbeats 8000000 in
set_option maxRecDepth 100000 in
theorem laws_a2At.calls (A0 : Option Addr) (c0 : Nat) (l0 : List Int) (a1 : Int) (a2 : Int) (r : Int) (w : World) (hr0 : Kd.C (Kd.int .u8) w A0 l0.length l0) (hc0 : l0.length ≤ c0) (h : laws_a2At.f l0 a1 a2 = some r) :
    Calls Try.prog 54 #[.slice A0 l0.length c0, .int .i64 a1, .int .i64 a2] w fun e w' => e = .returned (.int .i64 r) ∧ Drawn0 w w' := by
  have HR0 := Aside0.mk hr0
  have HC0 := Aside0.mk hc0
  clear hr0 hc0
  have H : (if a1 ≥ (l0.length : Int) then (some 0) else (if a2 < 1 then (some 0) else (if 0 ≤ a1 then (if a1 < (l0.length : Int) then (if a2 = 0 then (none) else (some (Int.tmod (wrap64 (rd l0 a1)) a2))) else (none)) else (none)))) = some r := h
  clear h
  by_cases c4 : a1 ≥ (l0.length : Int)
  · rw [if_pos c4] at H
    have c4b0 : decide ((l0.length : Int) ≤ a1) = true := decide_eq_true c4
    clear c4
    obtain rfl := Option.some.inj H
    go_enter Try.func54, Try.ntmps54
    go_wp2
    go_ret
    exact ⟨by first | rfl | (simp; done) | (simp [*]; done), by repeat (first | exact Drawn0.refl _ | apply Drawn0.step)⟩
  · rw [if_neg c4] at H
    have c4b0 : decide ((l0.length : Int) ≤ a1) = false := decide_eq_false c4
    clear c4
    by_cases c5 : a2 < 1
    · rw [if_pos c5] at H
      have c5b0 : decide (a2 < 1) = true := decide_eq_true c5
      clear c5
      obtain rfl := Option.some.inj H
      go_enter Try.func54, Try.ntmps54
      go_wp2
      go_ret
      exact ⟨by first | rfl | (simp; done) | (simp [*]; done), by repeat (first | exact Drawn0.refl _ | apply Drawn0.step)⟩
    · rw [if_neg c5] at H
      have c5b0 : decide (a2 < 1) = false := decide_eq_false c5
      clear c5
      by_cases c6 : 0 ≤ a1
      · rw [if_pos c6] at H
        have c6b0 : decide (0 ≤ a1) = true := decide_eq_true c6
        clear c6
        by_cases c7 : a1 < (l0.length : Int)
        · rw [if_pos c7] at H
          have c7b0 : decide (a1 < (l0.length : Int)) = true := decide_eq_true c7
          clear c7
          by_cases c8 : a2 = 0
          · rw [if_pos c8] at H
            exact absurd H (by simp)
          · rw [if_neg c8] at H
            have c8b0 : (a2 == 0) = false := beq_eq_false_iff_ne.mpr c8
            have c8b1 : (a2 != 0) = true := bne_iff_ne.mpr c8
            obtain rfl := Option.some.inj H
            have p963 : 0 ≤ (a1 : Int) := of_decide_eq_true (by first | (with_reducible assumption) | assumption)
            have q963 : a1 < (l0.length : Int) := of_decide_eq_true (by first | (with_reducible assumption) | assumption)
            obtain ⟨ad963, e963, hx963_0⟩ := Kd.at_int HR0.out a1 p963 q963
            cases e963
            replace p963 := eq_true p963
            replace q963 := eq_true q963
            go_enter Try.func54, Try.ntmps54
            go_wp2
            go_ret
            exact ⟨by first | rfl | (simp; done) | (simp [*]; done), by repeat (first | exact Drawn0.refl _ | apply Drawn0.step)⟩
        · rw [if_neg c7] at H
          exact absurd H (by simp)
      · rw [if_neg c6] at H
        exact absurd H (by simp)

end Go.Proofs.Ytjemkdpffjneaaa.Q
end

section
namespace Go.Proofs.Ytjemkdpffjneaaa.Q
open Go.RowKit Go.Proofs.YtjemkdpffjneaaaW.PrintWords Go.Proofs.YtjemkdpffjneaaaW.PrintLast Go.Proofs.YtjemkdpffjneaaaW.PrintMore
attribute [local go_sem] max2_int min2_int max_two min_two max_three min_three max_four min_four   -- for this text's walks alone
set_option linter.unusedVariables false
set_option linter.unusedSimpArgs false

def impl_in.f (a0 : Int) (a1 : Int) (a2 : Int) : Option (Bool) := if a0 ≥ a1 then (some (decide (a0 ≤ a2))) else (some false)
set_option maxHeartbeats 8000000 in
set_option maxRecDepth 100000 in
theorem impl_in.calls (a0 : Int) (a1 : Int) (a2 : Int) (r : Bool) (w : World) (h : impl_in.f a0 a1 a2 = some r) :
    Calls Try.prog 71 #[.int .i64 a0, .int .i64 a1, .int .i64 a2] w fun e w' => e = .returned (.bool r) ∧ Drawn0 w w' := by
  have H : (if a0 ≥ a1 then (some (decide (a0 ≤ a2))) else (some false)) = some r := h
  clear h
  by_cases c4 : a0 ≥ a1
  · rw [if_pos c4] at H
    have c4b0 : decide (a1 ≤ a0) = true := decide_eq_true c4
    clear c4
    obtain rfl := Option.some.inj H
    go_enter Try.func71, Try.ntmps71
    go_wp2
    go_ret
    exact ⟨by first | rfl | (simp; done) | (simp [*]; done), by repeat (first | exact Drawn0.refl _ | apply Drawn0.step)⟩
  · rw [if_neg c4] at H
    have c4b0 : decide (a1 ≤ a0) = false := decide_eq_false c4
    clear c4
    obtain rfl := Option.some.inj H
    go_enter Try.func71, Try.ntmps71
    go_wp2
    go_ret
    exact ⟨by first | rfl | (simp; done) | (simp [*]; done), by repeat (first | exact Drawn0.refl _ | apply Drawn0.step)⟩

end Go.Proofs.Ytjemkdpffjneaaa.Q
end

section
namespace Go.Proofs.Ytjemkdpffjneaaa.Q
open Go.RowKit Go.Proofs.YtjemkdpffjneaaaW.PrintWords Go.Proofs.YtjemkdpffjneaaaW.PrintLast Go.Proofs.YtjemkdpffjneaaaW.PrintMore
attribute [local go_sem] max2_int min2_int max_two min_two max_three min_three max_four min_four   -- for this text's walks alone
set_option linter.unusedVariables false
set_option linter.unusedSimpArgs false

def impl_pairs.f (a0 : Int) : Option (Int) := some (wrap64 (Int.tdiv (wrap64 (a0 * (wrap64 (a0 - 1)))) 2))
set_option maxHeartbeats 8000000 in
set_option maxRecDepth 100000 in
theorem impl_pairs.calls (a0 : Int) (r : Int) (w : World) (h : impl_pairs.f a0 = some r) :
    Calls Try.prog 84 #[.int .i64 a0] w fun e w' => e = .returned (.int .i64 r) ∧ Drawn0 w w' := by
  have H : (some (wrap64 (Int.tdiv (wrap64 (a0 * (wrap64 (a0 - 1)))) 2))) = some r := h
  clear h
  obtain rfl := Option.some.inj H
  go_enter Try.func84, Try.ntmps84
  go_wp2
  go_ret
  exact ⟨by first | rfl | (simp; done) | (simp [*]; done), by repeat (first | exact Drawn0.refl _ | apply Drawn0.step)⟩

end Go.Proofs.Ytjemkdpffjneaaa.Q
end

section
namespace Go.Proofs.Ytjemkdpffjneaaa.Q
open Go.RowKit Go.Proofs.YtjemkdpffjneaaaW.PrintWords Go.Proofs.YtjemkdpffjneaaaW.PrintLast Go.Proofs.YtjemkdpffjneaaaW.PrintMore
attribute [local go_sem] max2_int min2_int max_two min_two max_three min_three max_four min_four   -- for this text's walks alone
set_option linter.unusedVariables false
set_option linter.unusedSimpArgs false

def impl_bit.f (a0 : Int) (a1 : Int) : Option (Int) := if a0 > a1 then ((impl_pairs.f a0).bind fun t165 => (if 0 ≤ (wrap64 (t165 + a1)) then (some (shl .u32 1 (wrap64 (t165 + a1)))) else (none))) else ((impl_pairs.f a1).bind fun t166 => (if 0 ≤ (wrap64 (t166 + a0)) then (some (shl .u32 1 (wrap64 (t166 + a0)))) else (none)))
set_option maxHeartbeats 8000000 in
set_option maxRecDepth 100000 in
theorem impl_bit.calls (a0 : Int) (a1 : Int) (r : Int) (w : World) (h : impl_bit.f a0 a1 = some r) :
    Calls Try.prog 158 #[.int .i64 a0, .int .i64 a1] w fun e w' => e = .returned (.int .u32 r) ∧ Drawn0 w w' := by
  have H : (if a0 > a1 then ((impl_pairs.f a0).bind fun t165 => (if 0 ≤ (wrap64 (t165 + a1)) then (some (shl .u32 1 (wrap64 (t165 + a1)))) else (none))) else ((impl_pairs.f a1).bind fun t166 => (if 0 ≤ (wrap64 (t166 + a0)) then (some (shl .u32 1 (wrap64 (t166 + a0)))) else (none)))) = some r := h
  clear h
  by_cases c3 : a0 > a1
  · rw [if_pos c3] at H
    have c3b0 : decide (a1 < a0) = true := decide_eq_true c3
    clear c3
    replace H := Option.bind_eq_some_iff.mp H
    obtain ⟨t165, A40, H⟩ := H
    replace H : (if 0 ≤ (wrap64 (t165 + a1)) then (some (shl .u32 1 (wrap64 (t165 + a1)))) else (none)) = some r := H
    have A4 := Aside0.mk A40
    clear A40
    obtain ⟨ji5, hji5⟩ : ∃ j_ : Int, (wrap64 (t165 + a1)) = j_ := ⟨_, rfl⟩
    replace H : (if 0 ≤ (ji5) then (some (shl .u32 1 (ji5))) else (none)) = some r := by first | (rw [hji5] at H; exact H) | (simp only [hji5] at H ⊢; exact H)
    (try rw [hji5] at A4)
    have hji5w : (IntKind.i64.wrap (t165 + a1)) = ji5 := (i64_w _).trans hji5
    by_cases c6 : 0 ≤ (ji5)
    · rw [if_pos c6] at H
      have c6b0 := eq_true c6
      have c6b1 : decide (0 ≤ (ji5)) = true := decide_eq_true c6
      clear c6
      obtain ⟨ji7, hji7⟩ : ∃ j_ : Int, (shl .u32 1 (ji5)) = j_ := ⟨_, rfl⟩
      replace H : (some ji7) = some r := by first | (rw [hji7] at H; exact H) | (simp only [hji7] at H ⊢; exact H)
      (try rw [hji7] at A4)
      have hji7_ : (IntKind.u32.wrap (1 * 2 ^ min (ji5).toNat 32)) = ji7 := hji7
      have hji7z : (ji5) ≤ 32 → (IntKind.u32.wrap (1 * 2 ^ (ji5).toNat)) = ji7 := shl_small hji7
      have hji7u : (IntKind.u32.wrap (2 ^ min (ji5).toNat 32)) = ji7 := by have h_ := hji7_; rw [Int.one_mul] at h_; exact h_
      have hji7v : (ji5) ≤ 32 → (IntKind.u32.wrap (2 ^ (ji5).toNat)) = ji7 := fun hle_ => by have h_ := hji7z hle_; rw [Int.one_mul] at h_; exact h_
      obtain rfl := Option.some.inj H
      go_enter Try.func158, Try.ntmps158
      go_wp2_with (first | ((with_reducible refine gate_callee (f := 84) rfl ?_); refine goesL_ (some 11) rfl rfl Try.func84 (by kernel_rfl) rfl #[.int .i64 a0] rfl (by (try simp only [List.map_toArray, List.map_cons, List.map_nil]); first | done | rfl | (simp only [List.length_drop, List.length_take]; rfl)) ?_; (with_reducible refine (impl_pairs.calls a0 t165 _ A4.out).mono ?_); rintro e w' ⟨rfl, ⟨nd, rfl⟩⟩; refine ⟨_, rfl, ?_⟩))
      go_ret
      exact ⟨by first | rfl | (simp; done) | (simp only [← hji5, ← hji7] <;> (first | rfl | simp)) | (simp [*]; done), by repeat (first | exact Drawn0.refl _ | apply Drawn0.step)⟩
    · rw [if_neg c6] at H
      exact absurd H (by simp)
  · rw [if_neg c3] at H
    have c3b0 : decide (a1 < a0) = false := decide_eq_false c3
    clear c3
    replace H := Option.bind_eq_some_iff.mp H
    obtain ⟨t166, A80, H⟩ := H
    replace H : (if 0 ≤ (wrap64 (t166 + a0)) then (some (shl .u32 1 (wrap64 (t166 + a0)))) else (none)) = some r := H
    have A8 := Aside0.mk A80
    clear A80
    obtain ⟨ji9, hji9⟩ : ∃ j_ : Int, (wrap64 (t166 + a0)) = j_ := ⟨_, rfl⟩
    replace H : (if 0 ≤ (ji9) then (some (shl .u32 1 (ji9))) else (none)) = some r := by first | (rw [hji9] at H; exact H) | (simp only [hji9] at H ⊢; exact H)
    (try rw [hji9] at A8)
    have hji9w : (IntKind.i64.wrap (t166 + a0)) = ji9 := (i64_w _).trans hji9
    by_cases c10 : 0 ≤ (ji9)
    · rw [if_pos c10] at H
      have c10b0 := eq_true c10
      have c10b1 : decide (0 ≤ (ji9)) = true := decide_eq_true c10
      clear c10
      obtain ⟨ji11, hji11⟩ : ∃ j_ : Int, (shl .u32 1 (ji9)) = j_ := ⟨_, rfl⟩
      replace H : (some ji11) = some r := by first | (rw [hji11] at H; exact H) | (simp only [hji11] at H ⊢; exact H)
      (try rw [hji11] at A8)
      have hji11_ : (IntKind.u32.wrap (1 * 2 ^ min (ji9).toNat 32)) = ji11 := hji11
      have hji11z : (ji9) ≤ 32 → (IntKind.u32.wrap (1 * 2 ^ (ji9).toNat)) = ji11 := shl_small hji11
      have hji11u : (IntKind.u32.wrap (2 ^ min (ji9).toNat 32)) = ji11 := by have h_ := hji11_; rw [Int.one_mul] at h_; exact h_
      have hji11v : (ji9) ≤ 32 → (IntKind.u32.wrap (2 ^ (ji9).toNat)) = ji11 := fun hle_ => by have h_ := hji11z hle_; rw [Int.one_mul] at h_; exact h_
      obtain rfl := Option.some.inj H
      go_enter Try.func158, Try.ntmps158
      go_wp2_with (first | ((with_reducible refine gate_callee (f := 84) rfl ?_); refine goesL_ (some 11) rfl rfl Try.func84 (by kernel_rfl) rfl #[.int .i64 a1] rfl (by (try simp only [List.map_toArray, List.map_cons, List.map_nil]); first | done | rfl | (simp only [List.length_drop, List.length_take]; rfl)) ?_; (with_reducible refine (impl_pairs.calls a1 t166 _ A8.out).mono ?_); rintro e w' ⟨rfl, ⟨nd, rfl⟩⟩; refine ⟨_, rfl, ?_⟩))
      go_ret
      exact ⟨by first | rfl | (simp; done) | (simp only [← hji9, ← hji11] <;> (first | rfl | simp)) | (simp [*]; done), by repeat (first | exact Drawn0.refl _ | apply Drawn0.step)⟩
    · rw [if_neg c10] at H
      exact absurd H (by simp)

end Go.Proofs.Ytjemkdpffjneaaa.Q
end
