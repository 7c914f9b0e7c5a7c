/- The walks and the pure laws under the claims of VeilsAll, VeilsPairings, VeilsSummed, part: Vx0, Hc, Vsa, Vf62, Vf61, Vf59, Vf41, Vf63, Vf43, Vf42, Vf13, Vf54, Vf98, Vf49, Vf77, Vf76, Vf74, Vf65, Ve0, Vf66, Vf78. -/
import Derived.Test.YtdinepghommchaaProg
import Derived.Below
import Derived.Deep.Draws
import Derived.Deep.AppendLies
import Derived.Maps.AppendAt
import Derived.OwnWalk
import Derived.Laws.BytesArg
import Derived.Laws.MakeOwn
import Derived.Laws.OwnMore
import Derived.Deep.OwnRows
import Derived.Tactics
import Derived.Lib.ConvBytes
import Derived.Laws.Slices
import Derived.WalkKit
import Derived.KernelRfl
import Derived.RowKit3
import Derived.Deep.LoopGhost
import Derived.Deep.QuietTactic
import Derived.BigQuiet
import Derived.WideLaws
import Derived.Deep.DeepCutAuto
import Derived.Deep.CutBlock
import Derived.Deep.RegionHeld3
import Derived.Laws.Rows
import Derived.Lib.AppendStr
import Derived.ArgAppend
import Derived.Laws.IdiomCopy
import Derived.OrdersHeld
import Derived.Laws.BitsLemmas
import Derived.RowKit
import Derived.Test.YtdinepghommchaaWWords
import Derived.Test.YtdinepghommchaaWLast
import Derived.Test.YtdinepghommchaaWTab
import Derived.Test.YtdinepghommchaaWQPut
import Derived.Test.YtdinepghommchaaWApart
import Derived.Test.YtdinepghommchaaWArr
import Derived.Test.YtdinepghommchaaWZeros
import Derived.Test.YtdinepghommchaaWFoot
import Derived.Test.YtdinepghommchaaWKept
import Derived.Test.YtdinepghommchaaWShare
import Derived.Test.YtdinepghommchaaWN
import Derived.Test.YtdinepghommchaaWEqStruct
import Derived.Test.YtdinepghommchaaWRepsOne
import Derived.Test.YtdinepghommchaaWGuard
import Derived.Test.YtdinepghommchaaWNEv
import Derived.Test.YtdinepghommchaaWMore
import Derived.Laws.EntriesVeiled
import Derived.Lib.SliceRun
-- Written by a program of this session over the kit's printer: wip/gp.py.
namespace Go.Proofs.Ytdinepghommchaa.V
open Go.RowKit Go.Proofs.YtdinepghommchaaW.PrintWords Go.Proofs.YtdinepghommchaaW.PrintLast Go.Proofs.YtdinepghommchaaW.PrintMore
attribute [local go_sem] max2_int min2_int max_two min_two max_three min_three max_four min_four   -- for this text's walks alone
set_option linter.unusedVariables false
set_option linter.unusedSimpArgs false



def errW : Option Int → Value
 | none => .nilIface
 | some c => .iface 0 (.int .i64 c)
theorem errW_none : errW none = .nilIface := rfl
theorem errW_some (c : Int) : errW (some c) = .iface 0 (.int .i64 c) := rfl

theorem info3 : (Try.prog.info? 3).map (fun i => (i.zero, i.size, i.bytes)) = some (some (.int .i64 0), 1, 8) := by kernel_rfl
theorem info27 : (Try.prog.info? 27).map (fun i => (i.zero, i.size, i.bytes)) = some (some (.slice none 0 0), 1, 24) := by kernel_rfl
theorem info28 : (Try.prog.info? 28).map (fun i => (i.zero, i.size, i.bytes)) = some (some (.slice none 0 0), 1, 24) := by kernel_rfl
theorem info82 : (Try.prog.info? 82).map (fun i => (i.zero, i.size, i.bytes)) = some (some (.agg #[(.int .i64 0), (.int .i64 0), (.int .i64 0)]), 3, 24) := by kernel_rfl
-- the values' own types
def rd_L1 (xs : List (List Int)) (i : Int) : (List Int) := xs.getD i.toNat ([] : List Int)
theorem at_L1 {w : World} {A : Option Addr} {n : Nat} {xs : List (List Int)} (h : Kd.C (Kd.slice 3 (Kd.int .i64)) w A n xs) (i : Int) (h0 : 0 ≤ i) (h1 : i < n) : ∃ ad A0 c0, A = some ad ∧ w.cell? (ad.add i.toNat) = some (.slice A0 (rd_L1 xs i).length c0) ∧ (rd_L1 xs i).length ≤ c0 ∧ (Kd.int .i64).C w A0 (rd_L1 xs i).length (rd_L1 xs i) := by
 obtain ⟨ad, c, e, _, hK, hc0⟩ := Kd.C_get h ([] : List Int) i h0 h1
 have hc : ∀ j u, c[j]? = some u → w.cell? (ad.add (i.toNat * 1 + j)) = some u := hc0
 obtain ⟨A0, c0, rfl, l0, g0⟩ := hK
 exact ⟨ad, A0, c0, e, by have hq := hc 0 _ rfl; rwa [Nat.mul_one, Nat.add_zero] at hq, l0, g0⟩

def rd_L2 (xs : List (List (List Int))) (i : Int) : (List (List Int)) := xs.getD i.toNat ([] : List (List Int))
theorem at_L2 {w : World} {A : Option Addr} {n : Nat} {xs : List (List (List Int))} (h : Kd.C (Kd.slice 28 (Kd.slice 3 (Kd.int .i64))) w A n xs) (i : Int) (h0 : 0 ≤ i) (h1 : i < n) : ∃ ad A0 c0, A = some ad ∧ w.cell? (ad.add i.toNat) = some (.slice A0 (rd_L2 xs i).length c0) ∧ (rd_L2 xs i).length ≤ c0 ∧ (Kd.slice 3 (Kd.int .i64)).C w A0 (rd_L2 xs i).length (rd_L2 xs i) := by
 obtain ⟨ad, c, e, _, hK, hc0⟩ := Kd.C_get h ([] : List (List Int)) i h0 h1
 have hc : ∀ j u, c[j]? = some u → w.cell? (ad.add (i.toNat * 1 + j)) = some u := hc0
 obtain ⟨A0, c0, rfl, l0, g0⟩ := hK
 exact ⟨ad, A0, c0, e, by have hq := hc 0 _ rfl; rwa [Nat.mul_one, Nat.add_zero] at hq, l0, g0⟩

/-! #### struct type 73 -/
structure S73 where
 f0 : Int
 f1 : Int
 f2 : Int
def z73 : S73 := ⟨(0 : Int), (0 : Int), (0 : Int)⟩
def k73 : Kd S73 := Kd.iso (Kd.pair (Kd.int .i64) (Kd.pair (Kd.int .i64) (Kd.int .i64))) (fun x : S73 => (x.f0, x.f1, x.f2))
theorem k73_open {w : World} {x : S73} {cs : List Value} (h : k73.K w x cs) : cs = [.int .i64 x.f0, .int .i64 x.f1, .int .i64 x.f2] := by
 obtain ⟨_, _, rfl, rfl, ⟨_, _, rfl, rfl, rfl⟩⟩ := h
 exact rfl
theorem k73_mkM (w : World) (base : Nat) (ok : Nat → Prop) (x : S73)  : k73.M w base ok x [.int .i64 x.f0, .int .i64 x.f1, .int .i64 x.f2] := ⟨[.int .i64 x.f0], [.int .i64 x.f1, .int .i64 x.f2], rfl, rfl, ⟨[.int .i64 x.f1], [.int .i64 x.f2], rfl, rfl, rfl⟩⟩
def rd_T73 (xs : List S73) (i : Int) : S73 := xs.getD i.toNat z73
theorem at_T73 {w : World} {A : Option Addr} {n : Nat} {xs : List S73} (h : Kd.C k73 w A n xs) (i : Int) (h0 : 0 ≤ i) (h1 : i < n) : ∃ ad , A = some ad ∧ w.cell? (ad.add (i.toNat * 3)) = some (.int .i64 (rd_T73 xs i).f0) ∧ w.cell? ⟨(ad.add (i.toNat * 3)).block, (ad.add (i.toNat * 3)).off + 1, none⟩ = some (.int .i64 (rd_T73 xs i).f1) ∧ w.cell? ⟨(ad.add (i.toNat * 3)).block, (ad.add (i.toNat * 3)).off + 2, none⟩ = some (.int .i64 (rd_T73 xs i).f2) := by
 obtain ⟨ad, c, e, _, hK, hc0⟩ := Kd.C_get h z73 i h0 h1
 have hc : ∀ j u, c[j]? = some u → w.cell? (ad.add (i.toNat * 3 + j)) = some u := hc0
 obtain rfl := k73_open hK
 exact ⟨ad, e, hc 0 _ rfl, by rw [← add_field _ _ 1 (by omega)]; exact hc 1 _ rfl, by rw [← add_field _ _ 2 (by omega)]; exact hc 2 _ rfl⟩

/-! #### struct type 82 -/
structure S82 where
 f0 : Int
 f1 : Int
 f2 : Int
def z82 : S82 := ⟨(0 : Int), (0 : Int), (0 : Int)⟩
def k82 : Kd S82 := Kd.iso (Kd.pair (Kd.int .i64) (Kd.pair (Kd.int .i64) (Kd.int .i64))) (fun x : S82 => (x.f0, x.f1, x.f2))
theorem k82_open {w : World} {x : S82} {cs : List Value} (h : k82.K w x cs) : cs = [.int .i64 x.f0, .int .i64 x.f1, .int .i64 x.f2] := by
 obtain ⟨_, _, rfl, rfl, ⟨_, _, rfl, rfl, rfl⟩⟩ := h
 exact rfl
theorem k82_mkM (w : World) (base : Nat) (ok : Nat → Prop) (x : S82)  : k82.M w base ok x [.int .i64 x.f0, .int .i64 x.f1, .int .i64 x.f2] := ⟨[.int .i64 x.f0], [.int .i64 x.f1, .int .i64 x.f2], rfl, rfl, ⟨[.int .i64 x.f1], [.int .i64 x.f2], rfl, rfl, rfl⟩⟩
def rd_T82 (xs : List S82) (i : Int) : S82 := xs.getD i.toNat z82
theorem at_T82 {w : World} {A : Option Addr} {n : Nat} {xs : List S82} (h : Kd.C k82 w A n xs) (i : Int) (h0 : 0 ≤ i) (h1 : i < n) : ∃ ad , A = some ad ∧ w.cell? (ad.add (i.toNat * 3)) = some (.int .i64 (rd_T82 xs i).f0) ∧ w.cell? ⟨(ad.add (i.toNat * 3)).block, (ad.add (i.toNat * 3)).off + 1, none⟩ = some (.int .i64 (rd_T82 xs i).f1) ∧ w.cell? ⟨(ad.add (i.toNat * 3)).block, (ad.add (i.toNat * 3)).off + 2, none⟩ = some (.int .i64 (rd_T82 xs i).f2) := by
 obtain ⟨ad, c, e, _, hK, hc0⟩ := Kd.C_get h z82 i h0 h1
 have hc : ∀ j u, c[j]? = some u → w.cell? (ad.add (i.toNat * 3 + j)) = some u := hc0
 obtain rfl := k82_open hK
 exact ⟨ad, e, hc 0 _ rfl, by rw [← add_field _ _ 1 (by omega)]; exact hc 1 _ rfl, by rw [← add_field _ _ 2 (by omega)]; exact hc 2 _ rfl⟩

/-- Facts that the walks ask for again and again, found by the same steps each time. -/
theorem od_ {p : Prop} [Decidable p] (h : decide p = true := by first | (with_reducible assumption) | assumption) : p := of_decide_eq_true h
theorem bel_ {p : Prop} (h : p := by repeat (first | (with_reducible first | exact HB.out | apply below_alloc | apply pw_below_drewN | apply below_drew1) | exact HB.out)) : p := h
theorem rf_ {p : Prop} (h : p := by first | rfl | (simp; done) | (simp [*]; done)) : p := h
theorem dr_ {p : Prop} (h : p := by repeat (first | exact Drawn0.refl _ | apply Drawn0.step)) : p := h
theorem ar_ {p : Prop} (h : p := by (try simp only [List.map_toArray, List.map_cons, List.map_nil]); first | done | rfl | (simp only [List.length_drop, List.length_take]; rfl)) : p := h
theorem belG_ {p : Prop} (h : p := by repeat (first | (with_reducible first | exact HB.out | apply below_alloc | apply pw_below_drewN | apply below_drew1 | refine below_set ?_ GE280.out | refine below_set ?_ GE281.out) | exact HB.out)) : p := h
theorem belH_ {p : Prop} (h : p := by repeat (first | (with_reducible first | exact HB.out | apply below_alloc | apply pw_below_drewN | apply below_drew1 | refine below_set ?_ GE278.out) | exact HB.out)) : p := h
theorem er_ {p : Prop} (h : p := by first | rfl | (simp [errW_none, errW_some] <;> rfl) | (simp [*, errW_none, errW_some] <;> rfl)) : p := h
theorem nN_ {p q : Prop} (h : p) (f : p → q := by intro h_; (with_reducible repeat (first | apply Kd.N_alloc | apply Kd.N_drewN | apply Kd.N_drew)); exact h_) : q := f h
theorem nR_ {p q : Prop} (h : p) (f : p → q := by intro h_; (with_reducible repeat (first | apply Kd.R_alloc | apply Kd.R_drewN | apply Kd.R_drew)); exact h_) : q := f h
theorem nV_ {p q : Prop} (h : p) (f : p → q := by intro h_; (with_reducible repeat (first | apply Kd.V_alloc | apply Kd.V_drewN | apply Kd.V_drew)); exact h_) : q := f h
theorem nS_ {p q : Prop} (h : p) (f : p → q := by intro h_; (with_reducible repeat (first | apply Kd.S_alloc | apply Kd.S_drewN | apply Kd.S_drew)); exact h_) : q := f h
theorem nB_ {p q : Prop} (h : p) (f : p → q := by intro h_; (with_reducible repeat (first | refine blk_drewN ?_ _ | refine blk_drew ?_ | refine blk_alloc ?_ _)); exact h_) : q := f h
theorem ai_ {w : World} {A : Option Addr} {n : Nat} {xs : List Int} (h : (Kd.int .i64).C w A n xs) (i : Int) (h0 : decide (0 ≤ i) = true := by first | (with_reducible assumption) | assumption) (h1 : decide (i < (n : Int)) = true := by first | (with_reducible assumption) | assumption) : ∃ ad, A = some ad ∧ w.cell? (ad.add i.toNat) = some (.int .i64 (rd xs i)) ∧ (0 ≤ i) = True ∧ (i < (n : Int)) = True := by
  have a := of_decide_eq_true h0
  have b := of_decide_eq_true h1
  obtain ⟨ad, e, hx⟩ := Kd.at_int h i a b
  exact ⟨ad, e, hx, eq_true a, eq_true b⟩
theorem al_ {w : World} {A : Option Addr} {n : Nat} {xs : List (List Int)} (h : Kd.C (Kd.slice 3 (Kd.int .i64)) w A n xs) (i : Int) (h0 : decide (0 ≤ i) = true := by first | (with_reducible assumption) | assumption) (h1 : decide (i < (n : Int)) = true := by first | (with_reducible assumption) | assumption) :
    ∃ ad A0 c0, A = some ad ∧ w.cell? (ad.add i.toNat) = some (.slice A0 (rd_L1 xs i).length c0) ∧ Aside0 ((rd_L1 xs i).length ≤ c0) ∧ Aside0 ((Kd.int .i64).C w A0 (rd_L1 xs i).length (rd_L1 xs i)) ∧ (0 ≤ i) = True ∧ (i < (n : Int)) = True := by
  have a := of_decide_eq_true h0
  have b := of_decide_eq_true h1
  obtain ⟨ad, A0, c0, e, hx, hl, hi⟩ := at_L1 h i a b
  exact ⟨ad, A0, c0, e, hx, ⟨hl⟩, ⟨hi⟩, eq_true a, eq_true b⟩
end Go.Proofs.Ytdinepghommchaa.V

/- Calls through function values and through interface values, for the walks of the veils' closures. -/
namespace Go.Proofs.Ytdinepghommchaa.H
open Go.RowKit Go.Proofs.YtdinepghommchaaW.PrintWords Go.Proofs.YtdinepghommchaaW.PrintLast Go.Proofs.YtdinepghommchaaW.PrintMore
set_option linter.unusedVariables false
set_option linter.unusedSimpArgs false

section
variable {P : Program} {ops : Array Oper} {Q : Exit → Act → World → Prop}

theorem value_runs {oi : Oper} {a : Act} {w : World} {f : FuncId} {fn : Func} {x : Operand} {caps : Array Value} {aa : Array Operand} {ts : Array TypeId} (hf : P.funcs[f]? = some fn) (hname : (fn.name == "runtime.NumGoroutine") = false) (hb : fn.body.isSome = true) (args : Array Value)
 (hop : oi.op = .call { callee := .value x, args := aa, argTypes := ts }) (hx : a.eval x = .func (.func f) #[] caps) (hargs : aa.map a.eval ++ caps = args) : (execOp a.eval oi).run P w = .ok (.enter f args) w := by
 have he := enters_ hf hname hb args w
 unfold execOp
 simp [hop, resolve, Deferred.ofValue, invoke, hx, hargs, he]

/-- A call of a function value, in a region that draws its order. -/
theorem goesV_ {oi : Oper} {N : Option Tmp} {a : Act} {w : World} {K : Act → World → Prop} {f : FuncId} {fn : Func} {x : Operand} {caps : Array Value} {aa : Array Operand} {ts : Array TypeId} (hf : P.funcs[f]? = some fn) (hname : (fn.name == "runtime.NumGoroutine") = false) (hb : fn.body.isSome = true) (args : Array Value)
 (hw : Region.wanted oi (yielded ops a.tmps) = true) (hN : oi.dst = N) (hop : oi.op = .call { callee := .value x, args := aa, argTypes := ts }) (hx : a.eval x = .func (.func f) #[] caps) (hargs : aa.map a.eval ++ caps = args)
 (h : Calls P f args w fun e w' => ∃ v, e = .returned v ∧ K (a.put N v) w') : if Region.wanted oi (yielded ops a.tmps) = true then Oper.wp P oi a w K Q else K (a.put N undef) w :=
 call_ f args hw hN (value_runs hf hname hb args hop hx hargs) h

end

theorem m_veil_size (A : Option Addr) (n c : Nat) : ∀ w, (method 208 49 (.slice A n c) "cloche/veils.size").run Try.prog w = .ok (98, .slice A n c) w := fun _ => by kernel_rfl
theorem m_veil_sum (A : Option Addr) (n c : Nat) : ∀ w, (method 208 49 (.slice A n c) "cloche/veils.sum").run Try.prog w = .ok (54, .slice A n c) w := fun _ => by kernel_rfl
end Go.Proofs.Ytdinepghommchaa.H

/- The state in memory of the search for veils: six boxed variables, a row of sums, a row of sums of columns, and the table that is filled; how it stands behind each store. -/
namespace Go.Proofs.Ytdinepghommchaa.V
open Go.RowKit Go.Proofs.YtdinepghommchaaW.PrintWords Go.Proofs.YtdinepghommchaaW.PrintLast Go.Proofs.YtdinepghommchaaW.PrintMore
set_option linter.unusedVariables false
set_option linter.unusedSimpArgs false

/-- Two worlds agree in the blocks of K, and beside the memory. -/
structure Same (K : Nat → Prop) (W W' : World) : Prop where
 os : W'.os = W.os
 tape : W'.tape = W.tape
 output : W'.output = W.output
 size : W.heap.size ≤ W'.heap.size
 block : ∀ k, K k → k < W.heap.size → W'.heap[k]? = W.heap[k]?
theorem Same.refl (K : Nat → Prop) (W : World) : Same K W W := ⟨rfl, rfl, rfl, Nat.le_refl _, fun _ _ _ => rfl⟩
theorem Same.trans {K : Nat → Prop} {A B C : World} (h : Same K A B) (k : Same K B C) : Same K A C :=
 ⟨k.os.trans h.os, k.tape.trans h.tape, k.output.trans h.output, Nat.le_trans h.size k.size, fun i hi hl => (k.block i hi (Nat.lt_of_lt_of_le hl h.size)).trans (h.block i hi hl)⟩
theorem Same.mono {K K' : Nat → Prop} {A B : World} (h : Same K A B) (hk : ∀ k, K' k → K k) : Same K' A B := ⟨h.os, h.tape, h.output, h.size, fun i hi hl => h.block i (hk i hi) hl⟩
theorem Same.below {K : Nat → Prop} {A B : World} (h : Same K A B) (hk : ∀ k, k < A.heap.size → K k) : Below A.heap.size A B := ⟨h.os, h.tape, h.output, h.size, fun i hi => h.block i (hk i hi) hi⟩
theorem Same.of_below {K : Nat → Prop} {A B : World} (h : Below A.heap.size A B) : Same K A B := ⟨h.os, h.tape, h.output, h.size, fun i _ hl => h.block i hl⟩
theorem Same.setCell {K : Nat → Prop} (A : World) (p : Addr) (u : Value) (hp : ¬ K p.block) : Same K A (A.setCell p u) :=
 ⟨rfl, rfl, rfl, by simp [World.setCell], fun i hi _ => Below.heap_setCell A p u i (fun e => hp (e ▸ hi))⟩
theorem Same.drewN {K : Nat → Prop} (A : World) (n : Nat) : Same K A (A.drewN n) := ⟨rfl, rfl, rfl, Nat.le_refl _, fun _ _ _ => rfl⟩
theorem Same.blk {K : Nat → Prop} {A B : World} (h : Same K A B) {k : Nat} {o : Obj} (hb : A.heap[k]? = some o) (hk : K k) : B.heap[k]? = some o := (h.block k hk (blk_lt hb)).trans hb

/-- The blocks' numbers: the boxes of n, rows, columns, found, v, on; the rows' own blocks; the table's block and its capacity; the function value that is called. -/
structure Pt where
 (bn br bc bf bv bo R C V cv : Nat)
 fv : Value
 okV : Nat → Prop
def Pt.caps (q : Pt) : Array Value := #[.pointer (some ⟨q.bn, 0, none⟩), .pointer (some ⟨q.bc, 0, none⟩), .pointer (some ⟨q.bf, 0, none⟩), .pointer (some ⟨q.bv, 0, none⟩), .pointer (some ⟨q.br, 0, none⟩), .pointer (some ⟨q.bo, 0, none⟩)]
/-- What lies where: all of it between lo and hi, the rows and the table's rows apart from the boxes. -/
structure Pt.Fits (q : Pt) (lo hi : Nat) : Prop where
 hR : lo ≤ q.R ∧ q.R < hi
 hC : lo ≤ q.C ∧ q.C < hi
 hV : ∀ k, q.okV k → lo ≤ k ∧ k < hi ∧ k ≠ q.R ∧ k ≠ q.C ∧ k ≠ q.bn ∧ k ≠ q.br ∧ k ≠ q.bc ∧ k ≠ q.bf ∧ k ≠ q.bv ∧ k ≠ q.bo
 hRC : q.R ≠ q.C
 hRb : q.R ≠ q.bn ∧ q.R ≠ q.br ∧ q.R ≠ q.bc ∧ q.R ≠ q.bf ∧ q.R ≠ q.bv ∧ q.R ≠ q.bo
 hCb : q.C ≠ q.bn ∧ q.C ≠ q.br ∧ q.C ≠ q.bc ∧ q.C ≠ q.bf ∧ q.C ≠ q.bv ∧ q.C ≠ q.bo
 hb : (lo ≤ q.bn ∧ q.bn < hi) ∧ (lo ≤ q.br ∧ q.br < hi) ∧ (lo ≤ q.bc ∧ q.bc < hi) ∧ (lo ≤ q.bf ∧ q.bf < hi) ∧ (lo ≤ q.bv ∧ q.bv < hi) ∧ (lo ≤ q.bo ∧ q.bo < hi)

/-- The table, the sums of the rows and of the columns. -/
structure VS where
 t : List (List Int)
 rows : List Int
 cols : List Int

structure St (lo : Nat) (q : Pt) (n : Nat) (W : World) (s : VS) : Prop where
 bn : W.heap[q.bn]? = some (.cells #[.int .i64 n] 3 (0, 0))
 br : W.heap[q.br]? = some (.cells #[.slice (some ⟨q.R, 0, none⟩) n n] 28 (0, 0))
 bc : W.heap[q.bc]? = some (.cells #[.slice (some ⟨q.C, 0, none⟩) n n] 28 (0, 0))
 bf : W.heap[q.bf]? = some (.cells #[q.fv] 50 (0, 0))
 bv : W.heap[q.bv]? = some (.cells #[.slice (some ⟨q.V, 0, none⟩) n q.cv] 49 (0, 0))
 bo : W.heap[q.bo]? = some (.cells #[.func (.func 61) #[] q.caps] 65 (0, 0))
 rows : Kd.R (Kd.int .i64) 3 W lo (fun k => k = q.R) (.slice (some ⟨q.R, 0, none⟩) n n) s.rows
 cols : Kd.R (Kd.int .i64) 3 W lo (fun k => k = q.C) (.slice (some ⟨q.C, 0, none⟩) n n) s.cols
 tab : Kd.S (Kd.slice 3 (Kd.int .i64)) 28 W lo q.okV (.slice (some ⟨q.V, 0, none⟩) n q.cv) s.t
 wide : ∀ i, i < n → (s.t.getD i []).length = n

theorem St.same {lo hi : Nat} {q : Pt} {n : Nat} {W W' : World} {s : VS} (h : St lo q n W s) (f : q.Fits lo hi) (hs : Same (fun k => lo ≤ k ∧ k < hi) W W') : St lo q n W' s :=
 ⟨hs.blk h.bn f.hb.1, hs.blk h.br f.hb.2.1, hs.blk h.bc f.hb.2.2.1, hs.blk h.bf f.hb.2.2.2.1, hs.blk h.bv f.hb.2.2.2.2.1, hs.blk h.bo f.hb.2.2.2.2.2,
  Kd.R_step h.rows (fun k hk hl => hs.block k (by subst hk; exact f.hR) hl), Kd.R_step h.cols (fun k hk hl => hs.block k (by subst hk; exact f.hC) hl),
  Kd.S_step h.tab (fun k hk hl => hs.block k ⟨(f.hV k hk).1, (f.hV k hk).2.1⟩ hl), h.wide⟩
theorem St.lens {lo : Nat} {q : Pt} {n : Nat} {W : World} {s : VS} (h : St lo q n W s) : s.rows.length = n ∧ s.cols.length = n ∧ s.t.length = n :=
 ⟨(Kd.R_reads' h.rows).1.symm, (Kd.R_reads' h.cols).1.symm, (Kd.S_reads' h.tab).1.symm⟩
theorem St.setR {lo hi : Nat} {q : Pt} {n : Nat} {W : World} {s : VS} (h : St lo q n W s) (f : q.Fits lo hi) (i x : Int) :
 St lo q n (W.setCell ⟨q.R, i.toNat, none⟩ (.int .i64 x)) { s with rows := s.rows.set i.toNat x } := by
 obtain ⟨e1, e2, e3, e4, e5, e6⟩ := f.hRb
 exact ⟨blk_far h.bn (fun e => e1 e.symm) _, blk_far h.br (fun e => e2 e.symm) _, blk_far h.bc (fun e => e3 e.symm) _, blk_far h.bf (fun e => e4 e.symm) _, blk_far h.bv (fun e => e5 e.symm) _, blk_far h.bo (fun e => e6 e.symm) _,
  (Kd.R_putg h.rows i x).1, Kd.R_far h.cols (fun k hk => by subst hk; exact fun e => f.hRC e.symm) _, Kd.S_far h.tab (fun k hk => (f.hV k hk).2.2.1) _, h.wide⟩
theorem St.setC {lo hi : Nat} {q : Pt} {n : Nat} {W : World} {s : VS} (h : St lo q n W s) (f : q.Fits lo hi) (i x : Int) :
 St lo q n (W.setCell ⟨q.C, i.toNat, none⟩ (.int .i64 x)) { s with cols := s.cols.set i.toNat x } := by
 obtain ⟨e1, e2, e3, e4, e5, e6⟩ := f.hCb
 exact ⟨blk_far h.bn (fun e => e1 e.symm) _, blk_far h.br (fun e => e2 e.symm) _, blk_far h.bc (fun e => e3 e.symm) _, blk_far h.bf (fun e => e4 e.symm) _, blk_far h.bv (fun e => e5 e.symm) _, blk_far h.bo (fun e => e6 e.symm) _,
  Kd.R_far h.rows (fun k hk => by subst hk; exact f.hRC) _, (Kd.R_putg h.cols i x).1, Kd.S_far h.tab (fun k hk => (f.hV k hk).2.2.2.1) _, h.wide⟩
theorem St.row {lo : Nat} {q : Pt} {n : Nat} {W : World} {s : VS} (h : St lo q n W s) (i : Int) (h0 : 0 ≤ i) (h1 : i < n) : W.cell? ⟨q.R, i.toNat, none⟩ = some (.int .i64 (rd s.rows i)) ∧ W.frozen? ⟨q.R, i.toNat, none⟩ = false :=
 Kd.R_celln (0 : Int) h.rows i h0 h1
theorem St.col {lo : Nat} {q : Pt} {n : Nat} {W : World} {s : VS} (h : St lo q n W s) (i : Int) (h0 : 0 ≤ i) (h1 : i < n) : W.cell? ⟨q.C, i.toNat, none⟩ = some (.int .i64 (rd s.cols i)) ∧ W.frozen? ⟨q.C, i.toNat, none⟩ = false :=
 Kd.R_celln (0 : Int) h.cols i h0 h1

/-- A place of the table: where it lies, and how the state stands when a number is stored there. -/
theorem St.place {lo hi : Nat} {q : Pt} {n : Nat} {W : World} {s : VS} (h : St lo q n W s) (f : q.Fits lo hi) (i j : Int) (h0 : 0 ≤ i) (h1 : i < n) (j0 : 0 ≤ j) (j1 : j < n) :
 ∃ g c, W.cell? ⟨q.V, i.toNat, none⟩ = some (.slice (some ⟨g, 0, none⟩) n c) ∧ lo ≤ g ∧ g < hi ∧ W.cell? ⟨g, j.toNat, none⟩ = some (.int .i64 (rd (rd_L1 s.t i) j)) ∧ W.frozen? ⟨g, j.toNat, none⟩ = false ∧
  ∀ x : Int, St lo q n (W.setCell ⟨g, j.toNat, none⟩ (.int .i64 x)) { s with t := s.t.set i.toNat ((rd_L1 s.t i).set j.toNat x) } := by
 have hl := h.lens
 have hw : (rd_L1 s.t i).length = n := h.wide i.toNat (by omega)
 obtain ⟨oki, c, hcl, hM, hcc, hok, hbk⟩ := Kd.S_borrow h.tab [] i h0 h1
 obtain ⟨v, rfl, gv⟩ := hM
 have gv' : Kd.R (Kd.int .i64) 3 W lo oki v (rd_L1 s.t i) := gv
 obtain ⟨g, cap, rfl, hb, hlt, cells, hcells⟩ := Kd.R_form gv' (by omega)
 have hgo : oki g := gv'.1 g rfl
 have hgV := f.hV g (hok g hgo).1
 have hcell := hcc 0 _ rfl
 rw [Nat.add_zero, show ((Kd.slice 3 (Kd.int .i64))).sz = 1 from rfl, Nat.mul_one, add_plain, hw] at hcell
 rw [hw] at gv'
 obtain ⟨hx, hf⟩ := Kd.R_celln (0 : Int) gv' j j0 j1
 refine ⟨g, cap, hcell, hgV.1, hgV.2.1, hx, hf, fun x => ?_⟩
 have hp := Kd.R_putg gv' j x
 obtain ⟨_, _, nR, nC, n1, n2, n3, n4, n5, n6⟩ := hgV
 refine ⟨blk_far h.bn (fun e => n1 e.symm) _, blk_far h.br (fun e => n2 e.symm) _, blk_far h.bc (fun e => n3 e.symm) _, blk_far h.bf (fun e => n4 e.symm) _, blk_far h.bv (fun e => n5 e.symm) _, blk_far h.bo (fun e => n6 e.symm) _,
  Kd.R_far h.rows (fun k hk => by subst hk; exact fun e => nR e.symm) _, Kd.R_far h.cols (fun k hk => by subst hk; exact fun e => nC e.symm) _, ?_, ?_⟩
 · have hb2 := hbk hp.2 (fun k hk => by injection hk with hk; subst hk; exact hgo) (x' := (rd_L1 s.t i).set j.toNat x) (by
    have z := Kd.M_row (e := 3) hp.1
    rw [hw]
    exact z)
   exact hb2
 · intro m hm
   show ((s.t.set i.toNat ((rd_L1 s.t i).set j.toNat x)).getD m []).length = n
   rw [List.getD_eq_getElem?_getD, List.getElem?_set]
   by_cases e : i.toNat = m
   · rw [if_pos e, if_pos (by omega)]
     simp [hw]
   · rw [if_neg e, ← List.getD_eq_getElem?_getD]
     exact h.wide m hm
end Go.Proofs.Ytdinepghommchaa.V

-- Written by a program of this session over the kit's printer: wip/gp.py.
namespace Go.Proofs.Ytdinepghommchaa.V
open Go.RowKit Go.Proofs.YtdinepghommchaaW.PrintWords Go.Proofs.YtdinepghommchaaW.PrintLast Go.Proofs.YtdinepghommchaaW.PrintMore
attribute [local go_sem] max2_int min2_int max_two min_two max_three min_three max_four min_four   -- for this text's walks alone
set_option linter.unusedVariables false
set_option linter.unusedSimpArgs false

/-! ### slices_Min_int_int: function 62 -/
def slices_Min_int_int.l0 : Nat → List Int → Int → Int → Option (Int)
 | 0, _, _, _ => none
 | k + 1, x0, x3, x4 => if x4 < (x0.length : Int) then (if 0 ≤ x4 then (slices_Min_int_int.l0 k x0 (mn x3 (rd x0 x4)) (wrap64 (x4 + 1))) else (none)) else (some x3)
def slices_Min_int_int.f (k : Nat) (l0 : List Int) : Option (Int) := if (l0.length : Int) < 1 then (none) else (if 0 < (l0.length : Int) then (slices_Min_int_int.l0 k l0 (rd l0 0) 1) else (none))
set_option maxHeartbeats 8000000 in
set_option maxRecDepth 100000 in
theorem slices_Min_int_int.calls (k : Nat) (A0 : Option Addr) (c0 : Nat) (l0 : List Int) (r : Int) (w : World) (hr0 : Kd.C (Kd.int .i64) w A0 l0.length l0) (hc0 : l0.length ≤ c0) (h : slices_Min_int_int.f k l0 = some r) :
 Calls Try.prog 62 #[.slice A0 l0.length c0] w fun e w' => e = .returned (.int .i64 r) ∧ Below w.heap.size w w' := by
 have HR0 := Aside0.mk hr0
 have HC0 := Aside0.mk hc0
 clear hr0 hc0
 have HB := Aside0.mk (Below.refl w.heap.size w)
 have H : (if (l0.length : Int) < 1 then (none) else (if 0 < (l0.length : Int) then (slices_Min_int_int.l0 k l0 (rd l0 0) 1) else (none))) = some r := h
 clear h
 by_cases c2 : (l0.length : Int) < 1
 · rw [if_pos c2] at H
   exact absurd H (by simp)
 · rw [if_neg c2] at H
   have c2b0 : decide ((l0.length : Int) < 1) = false := decide_eq_false c2
   have c2b1 : decide (l0.length < 1) = false := decide_eq_false (by omega)
   clear c2
   by_cases c3 : 0 < (l0.length : Int)
   · rw [if_pos c3] at H
     have c3b0 : decide (0 < (l0.length : Int)) = true := decide_eq_true c3
     have c3b1 : decide (0 < l0.length) = true := decide_eq_true (by omega)
     clear c3
     have H' := Aside0.mk H
     clear H
     have p101 : 0 ≤ (0 : Int) := (by omega)
     have q101 : 0 < (l0.length : Int) := od_
     obtain ⟨ad101, e101, hx101_0⟩ := Kd.at_int HR0.out 0 p101 q101
     cases e101
     have qi101 : (0 < l0.length) = True := eq_true (by omega)
     (try rw [show ((0 : Int)).toNat = 0 from rfl] at hx101_0)
     (try rw [Addr.add_zero'] at hx101_0)
     replace p101 := eq_true p101
     replace q101 := eq_true q101
     go_enter Try.func62, Try.ntmps62
     go_wp2
     go_loopg [3, 4] k (fun kq v3 v4 w' => ∃ (x3_1 : Int) (x4_1 : Int), v3 = .int .i64 x3_1 ∧ v4 = .int .i64 x4_1 ∧ Aside0 (slices_Min_int_int.l0 kq l0 x3_1 x4_1 = some r) ∧ Aside0 (kq ≤ k) ∧ Aside0 (Below w.heap.size w w'))
     case atStart => exact ⟨(rd l0 0), (1), rf_, rf_, H', ⟨Nat.le_refl _⟩, ⟨bel_⟩⟩
     case round =>
      clear H'
      try clear p1
      try clear q1
      try clear hx1
      try clear qi1
      try clear c2
      try clear c2b0
      try clear c2b1
      try clear p2
      try clear c3
      try clear c3b0
      try clear c3b1
      try clear hx101_0
      try clear p101
      try clear q101
      obtain ⟨x3_1, x4_1, rfl, rfl, HA, HK1, HB⟩ := hrel
      cases gk with
      | zero => exact absurd HA.out (by simp [slices_Min_int_int.l0])
      | succ k1 =>
       have H := HA.out
       clear HA
       simp only [slices_Min_int_int.l0] at H
       by_cases c4 : x4_1 < (l0.length : Int)
       · rw [if_pos c4] at H
         have c4b0 : decide (x4_1 < (l0.length : Int)) = true := decide_eq_true c4
         clear c4
         by_cases c5 : 0 ≤ x4_1
         · rw [if_pos c5] at H
           have c5b0 : decide (0 ≤ x4_1) = true := decide_eq_true c5
           clear c5
           obtain ⟨ji6, hji6⟩ : ∃ j_ : Int, (mn x3_1 (rd l0 x4_1)) = j_ := ⟨_, rfl⟩
           replace H : (slices_Min_int_int.l0 k1 l0 ji6 (wrap64 (x4_1 + 1))) = some r := by first | (rw [hji6] at H; exact H) | (simp only [hji6] at H ⊢; exact H)
           have hji6_ : (if (rd l0 x4_1) < x3_1 then (rd l0 x4_1) else x3_1) = ji6 := hji6
           have H' := Aside0.mk H
           clear H
           obtain ⟨ad102, e102, hx102_0, p102, q102⟩ := ai_ HR0.out x4_1
           obtain rfl : ad101 = ad102 := (by injection e102)
           replace hx102_0 := (HB.out.cell (World.block_lt_of_cell? w _ hx102_0)).trans hx102_0
           go_wp2
           go_roundg k1
           case measure => have := HK1.out; omega
           case rel => exact ⟨(ji6), (wrap64 (x4_1 + 1)), (by first | rfl | (simp; done) | (simp only [← hji6] <;> (first | rfl | simp)) | (simp [*]; done)), rf_, H', ⟨by have := HK1.out; omega⟩, ⟨bel_⟩⟩
         · rw [if_neg c5] at H
           exact absurd H (by simp)
       · rw [if_neg c4] at H
         have c4b0 : decide (x4_1 < (l0.length : Int)) = false := decide_eq_false c4
         clear c4
         obtain rfl := Option.some.inj H
         go_wp2
         go_ret
         exact ⟨er_, bel_⟩
   · rw [if_neg c3] at H
     exact absurd H (by simp)

end Go.Proofs.Ytdinepghommchaa.V

/- The walk of the search's own closure (all$2), which calls itself through the variable that holds it: what it does to the state, and what it hands to the function that it was given. -/
namespace Go.Proofs.Ytdinepghommchaa.V
open Go.RowKit Go.Proofs.YtdinepghommchaaW.PrintWords Go.Proofs.YtdinepghommchaaW.PrintLast Go.Proofs.YtdinepghommchaaW.PrintMore
set_option linter.unusedVariables false
set_option linter.unusedSimpArgs false

/-- One number is tried at the place i, j. -/
def tryF {α : Type} (onK : Nat → VS → α → Option (VS × α)) (n p i j : Nat) (x : Int) (z : VS × α) : Option (VS × α) :=
 if wrap64 (rd z.1.rows (i : Int) + x) < 0 then some z
 else if 1 < wrap64 (rd z.1.rows (i : Int) + x) then some z
 else if wrap64 (rd z.1.cols (j : Int) + x) < 0 then some z
 else if 1 < wrap64 (rd z.1.cols (j : Int) + x) then some z
 else if (j : Int) = (n : Int) - 1 ∧ wrap64 (rd z.1.rows (i : Int) + x) ≠ 1 then some z
 else (onK (p + 1) ⟨z.1.t.set i ((rd_L1 z.1.t (i : Int)).set j x), z.1.rows.set i (wrap64 (rd z.1.rows (i : Int) + x)), z.1.cols.set j (wrap64 (rd z.1.cols (j : Int) + x))⟩ z.2).map fun y =>
  (⟨y.1.t, y.1.rows.set i (wrap64 (wrap64 (rd z.1.rows (i : Int) + x) - x)), y.1.cols.set j (wrap64 (wrap64 (rd z.1.cols (j : Int) + x) - x))⟩, y.2)
/-- The last k of the numbers -1, 0 and 1 are tried. -/
def restF {α : Type} (onK : Nat → VS → α → Option (VS × α)) (n p i j : Nat) : Nat → VS × α → Option (VS × α)
 | 0, z => some z
 | k + 1, z => (tryF onK n p i j (1 - (k : Int)) z).bind (restF onK n p i j k)
def onF {α : Type} (n : Nat) (found : List (List Int) → α → Option α) : Nat → Nat → VS → α → Option (VS × α)
 | 0, _, _, _ => none
 | k + 1, p, s, a =>
  if p = n * n then (slices_Min_int_int.f 1000 s.cols).bind fun m => if m = 1 then (found s.t a).map fun b => (s, b) else some (s, a)
  else restF (onF n found k) n p (p / n) (p % n) 3 (s, a)

/-- What the closure is called with. -/
def Pt.args (q : Pt) (p : Int) : Array Value := #[.int .i64 p, .pointer (some ⟨q.bn, 0, none⟩), .pointer (some ⟨q.bc, 0, none⟩), .pointer (some ⟨q.bf, 0, none⟩), .pointer (some ⟨q.bv, 0, none⟩), .pointer (some ⟨q.br, 0, none⟩), .pointer (some ⟨q.bo, 0, none⟩)]

/-- What is asked of the function that the search calls with each table. -/
structure Found {α : Type} (lo0 lo hi : Nat) (fid : FuncId) (caps : Array Value) (found : List (List Int) → α → Option α) (Acc : World → α → Prop) : Prop where
 goes : ∀ (W : World) (A : Option Addr) (c : Nat) (t : List (List Int)) (a b : α), hi ≤ W.heap.size → Kd.C (Kd.slice 3 (Kd.int .i64)) W A t.length t → t.length ≤ c → Acc W a → found t a = some b →
  Calls Try.prog fid (#[.slice A t.length c] ++ caps) W fun e W' => e = .returned (.tuple #[]) ∧ Acc W' b ∧ Same (fun k => k < lo0 ∨ (lo ≤ k ∧ k < hi)) W W'
 stays : ∀ (W W' : World) (a : α), Acc W a → Same (fun k => ¬ (lo ≤ k ∧ k < hi)) W W' → Acc W' a

set_option maxHeartbeats 400000 in
set_option maxRecDepth 100000 in
/-- At the end of the table. -/
theorem on_end {α : Type} {lo0 lo hi : Nat} {q : Pt} {n : Nat} {fid : FuncId} {fn : Func} {caps : Array Value} {found : List (List Int) → α → Option α} {Acc : World → α → Prop} (hn : 1 ≤ n ∧ n ≤ 1000) (f : q.Fits lo hi)
 (hfn : Try.prog.funcs[fid]? = some fn) (hnm : (fn.name == "runtime.NumGoroutine") = false) (hbd : fn.body.isSome = true) (hfv : q.fv = .func (.func fid) #[] caps) (F : Found lo0 lo hi fid caps found Acc)
 (s : VS) (a b : α) (m : Int) (W : World) (hs : Aside0 (St lo q n W s)) (hw : Aside0 (hi ≤ W.heap.size)) (ha : Aside0 (Acc W a)) (hm : Aside0 (slices_Min_int_int.f 1000 s.cols = some m))
 (hb : Aside0 (if m = 1 then found s.t a = some b else b = a)) :
 Calls Try.prog 61 (q.args ((n * n : Nat) : Int)) W fun e W' => e = .returned (.tuple #[]) ∧ St lo q n W' s ∧ Acc W' b ∧ Same (fun k => k < lo0) W W' := by
 have cn : W.cell? ⟨q.bn, 0, none⟩ = some (.int .i64 n) := (blk_cell hs.out.bn 0).trans rfl
 have cc : W.cell? ⟨q.bc, 0, none⟩ = some (.slice (some ⟨q.C, 0, none⟩) n n) := (blk_cell hs.out.bc 0).trans rfl
 have cf : W.cell? ⟨q.bf, 0, none⟩ = some (.func (.func fid) #[] caps) := by rw [← hfv]; exact (blk_cell hs.out.bf 0).trans rfl
 have cv : W.cell? ⟨q.bv, 0, none⟩ = some (.slice (some ⟨q.V, 0, none⟩) n q.cv) := (blk_cell hs.out.bv 0).trans rfl
 have hcf : ∀ (args : Array Value) (w : World), (callFunc fid args).run Try.prog w = .ok (.enter fid args) w := enters_ hfn hnm hbd
 have e0 : ((n * n : Nat) : Int) = (n : Int) * n := by simp
 have n1 : 1 ≤ (n : Int) := by omega
 have n2 : (n : Int) ≤ 1000 := by omega
 have hl := hs.out.lens
 have HM : Aside0 (∀ w1, Kd.C (Kd.int .i64) w1 (some ⟨q.C, 0, none⟩) s.cols.length s.cols → Calls Try.prog 62 #[.slice (some ⟨q.C, 0, none⟩) n n] w1 (fun e w' => e = .returned (.int .i64 m) ∧ Below w1.heap.size w1 w')) :=
  ⟨fun w1 h => by have z := slices_Min_int_int.calls 1000 (some ⟨q.C, 0, none⟩) n s.cols m w1 h (by omega) hm.out; rwa [hl.2.1] at z⟩
 have HG : Aside0 (∀ (W' : World), Below W.heap.size W W' → found s.t a = some b → Calls Try.prog fid (#[.slice (some ⟨q.V, 0, none⟩) n q.cv] ++ caps) W' fun e w' => e = .returned (.tuple #[]) ∧ Acc w' b ∧ Same (fun k => k < lo0 ∨ (lo ≤ k ∧ k < hi)) W' w') :=
  ⟨fun W' hd hf => by
   have z := F.goes W' (some ⟨q.V, 0, none⟩) q.cv s.t a b (Nat.le_trans hw.out hd.size) (Kd.C_below (Kd.S_reads' hs.out.tab).2.2 hd) (by have z := (Kd.S_reads' hs.out.tab).2.1; omega) (F.stays _ _ _ ha.out (Same.of_below hd)) hf
   rwa [hl.2.2] at z⟩
 have hq : ((n : Int) * n == wrap64 ((n : Int) * n)) = true := by
  have h1 : (n : Int) * n ≤ 1000 * 1000 := Int.mul_le_mul n2 n2 (by omega) (by omega)
  have h2 : 0 ≤ (n : Int) * n := Int.mul_nonneg (by omega) (by omega)
  simp only [beq_iff_eq]
  unfold wrap64
  omega
 have HL := Aside0.mk hl
 clear hl
 rw [e0]
 clear e0
 unfold Pt.args
 by_cases e1 : m = 1
 · have hb' := hb.out
   rw [if_pos e1] at hb'
   have HB := Aside0.mk hb'
   subst e1
   clear hb'
   go_enter Try.func61, Try.ntmps61
   go_wp2_with (first | (go_at_call 62; refine (HM.out _ (Kd.R_reads' hs.out.cols).2.2).mono ?_; rintro e w' ⟨rfl, hbw⟩; have HW := Aside0.mk hbw; have cf1 := pw_cell_below hbw cf; have cv1 := pw_cell_below hbw cv; clear hbw) | (refine (HG.out _ HW.out HB.out).mono ?_; rintro e w' ⟨rfl, hacc, hsame⟩))
   all_goals (first | go_end0 | ((try simp only [Exit.inBlock, Exit.then]); refine bodyPost_ret (results_none rfl _ _ _) rfl ?_))
   all_goals exact ⟨rfl, (hs.out.same f (Same.of_below HW.out)).same f (hsame.mono (fun k hk => .inr hk)), hacc, (Same.of_below HW.out).trans (hsame.mono (fun k hk => .inl hk))⟩
 · have hb' := hb.out
   rw [if_neg e1] at hb'
   subst hb'
   have e2 : (m == 1) = false := by simpa using e1
   clear e1
   go_enter Try.func61, Try.ntmps61
   go_wp2_with (first | (go_at_call 62; refine (HM.out _ (Kd.R_reads' hs.out.cols).2.2).mono ?_; rintro e w' ⟨rfl, hbw⟩; have HW := Aside0.mk hbw; have cf1 := pw_cell_below hbw cf; have cv1 := pw_cell_below hbw cv; clear hbw))
   all_goals (first | go_end0 | ((try simp only [Exit.inBlock, Exit.then]); refine bodyPost_ret (results_none rfl _ _ _) rfl ?_))
   all_goals exact ⟨rfl, hs.out.same f (Same.of_below HW.out), F.stays _ _ _ ha.out (Same.of_below HW.out), Same.of_below HW.out⟩

theorem named {P : Program} {c : Code} {Q : Exit → Act → World → Prop} {a : Act} {w : World} (R : World → Prop) (h : R w) (k : ∀ w', R w' → Code.wp P c Q a w') : Code.wp P c Q a w := k w h

set_option maxHeartbeats 1000000 in
set_option maxRecDepth 100000 in
theorem on_step {α : Type} {lo0 lo hi : Nat} {q : Pt} {n : Nat} {fid : FuncId} {caps : Array Value} {found : List (List Int) → α → Option α} {Acc : World → α → Prop} (hn : 1 ≤ n ∧ n ≤ 1000) (f : q.Fits lo hi) (F : Found lo0 lo hi fid caps found Acc) (h01 : lo0 ≤ lo)
 (onK : Nat → VS → α → Option (VS × α))
 (ih : Aside0 (∀ (p : Nat) (s s' : VS) (a a' : α) (W : World), p ≤ n * n → St lo q n W s → hi ≤ W.heap.size → Acc W a → onK p s a = some (s', a') → Calls Try.prog 61 (q.args p) W fun e W' => e = .returned (.tuple #[]) ∧ St lo q n W' s' ∧ Acc W' a' ∧ Same (fun k => k < lo0) W W'))
 (p i j : Nat) (hp : p < n * n) (hi0 : Aside0 (i = p / n)) (hj0 : Aside0 (j = p % n)) (s s' : VS) (a a' : α) (W : World) (hs : Aside0 (St lo q n W s)) (hw : Aside0 (hi ≤ W.heap.size)) (ha : Aside0 (Acc W a))
 (hr : Aside0 (restF onK n p i j 3 (s, a) = some (s', a'))) :
 Calls Try.prog 61 (q.args p) W fun e W' => e = .returned (.tuple #[]) ∧ St lo q n W' s' ∧ Acc W' a' ∧ Same (fun k => k < lo0) W W' := by
 have cn : W.cell? ⟨q.bn, 0, none⟩ = some (.int .i64 n) := (blk_cell hs.out.bn 0).trans rfl
 have n1 : 1 ≤ (n : Int) := by omega
 have n2 : (n : Int) ≤ 1000 := by omega
 have h1 : (n : Int) * n ≤ 1000 * 1000 := Int.mul_le_mul n2 n2 (by omega) (by omega)
 have h2 : 0 ≤ (n : Int) * n := Int.mul_nonneg (by omega) (by omega)
 have hq0 : wrap64 ((n : Int) * n) = (n : Int) * n := by unfold wrap64; omega
 have hnn : ((n * n : Nat) : Int) = (n : Int) * n := by simp
 have hp' : (p : Int) < (n : Int) * n := by omega
 have hq : ((p : Int) == wrap64 ((n : Int) * n)) = false := by
   rw [hq0]
   simp only [beq_eq_false_iff_ne]
   omega
 have hn0 : ¬ ((n : Int) = 0) := by omega
 have i1 : i < n := by rw [hi0.out]; exact Nat.div_lt_of_lt_mul hp
 have j1 : j < n := by rw [hj0.out]; exact Nat.mod_lt _ (by omega)
 have hI : wrap64 ((p : Int) / (n : Int)) = (i : Int) := by
   have e : ((p : Int) / (n : Int)) = (i : Int) := by rw [hi0.out]; simp
   rw [e]
   unfold wrap64
   omega
 have hJ : (p : Int) % (n : Int) = (j : Int) := by rw [hj0.out]; simp
 have P1 := Aside0.mk hp
 have P2 := Aside0.mk hp'
 have P3 := Aside0.mk hnn
 clear hq0 h1 h2 hp hp' hnn
 unfold Pt.args
 go_enter Try.func61, Try.ntmps61
 go_wp2_with (fail)
 go_quiet (fail)
 go_wp2
 simp only [hI, hJ]
 go_loopg [10] 3 (fun kq v10 w' => ∃ (x : Int) (s1 : VS) (a1 : α), v10 = .int .i64 x ∧ -1 ≤ x ∧ x ≤ 2 ∧ Aside0 (x = 2 - (kq : Int)) ∧ Aside0 (kq ≤ 3) ∧ Aside0 (restF onK n p i j kq (s1, a1) = some (s', a')) ∧ Aside0 (St lo q n w' s1) ∧ Aside0 (hi ≤ w'.heap.size) ∧ Aside0 (Acc w' a1) ∧ Aside0 (Same (fun k => k < lo0) W w'))
 case atStart => exact ⟨-1, s, a, rfl, by omega, by omega, ⟨by omega⟩, ⟨by omega⟩, hr, ⟨hs.out.same f (Same.drewN _ _)⟩, hw, ⟨F.stays _ _ _ ha.out (Same.drewN _ _)⟩, ⟨Same.drewN _ _⟩⟩
 case round =>
   clear cn hq hI hJ hr hs ha hw
   obtain ⟨x, s1, a1, rfl, x0, x2, X, HK, HA, HS, HW, HC, HF⟩ := hrel
   cases gk with
   | zero =>
    have hx : decide (x ≤ 1) = false := decide_eq_false (by have := X.out; omega)
    have H := Option.some.inj HA.out
    obtain ⟨rfl, rfl⟩ := Prod.mk.inj H
    clear HA H
    go_wp2
    first | go_end0 | ((try simp only [Exit.inBlock, Exit.then]); refine bodyPost_ret (results_none rfl _ _ _) rfl ?_)
    exact ⟨rfl, HS.out, HC.out, HF.out⟩
   | succ k1 =>
    have hx : decide (x ≤ 1) = true := decide_eq_true (by have := X.out; omega)
    have hx1 : (1 - (k1 : Int)) = x := by have := X.out; omega
    have H := HA.out
    clear HA
    simp only [restF] at H
    rw [hx1] at H
    obtain ⟨z, hz, H⟩ := Option.bind_eq_some_iff.mp H
    have HR := Aside0.mk H
    have HX := Aside0.mk hx1
    clear H hx1
    unfold tryF at hz
    have hwr : ∃ W1 : World, wr = W1 := ⟨_, rfl⟩
    have cr := (blk_cell HS.out.br 0).trans (rfl : _ = some (Value.slice (some ⟨q.R, 0, none⟩) n n))
    have cc := (blk_cell HS.out.bc 0).trans (rfl : _ = some (Value.slice (some ⟨q.C, 0, none⟩) n n))
    have cn := (blk_cell HS.out.bn 0).trans (rfl : _ = some (Value.int .i64 n))
    have xr := (HS.out.row (i : Int) (by omega) (by omega)).1
    have xc := (HS.out.col (j : Int) (by omega) (by omega)).1
    rw [Int.toNat_natCast] at xr xc
    have i2 : decide (i < n) = true := decide_eq_true i1
    have j2 : decide (j < n) = true := decide_eq_true j1
    have i3 : decide ((i : Int) < (n : Int)) = true := decide_eq_true (by omega)
    have j3 : decide ((j : Int) < (n : Int)) = true := decide_eq_true (by omega)
    have iw := i64_w
    generalize er : wrap64 (rd s1.rows (i : Int) + x) = r at hz
    generalize ec : wrap64 (rd s1.cols (j : Int) + x) = c at hz
    go_wp2_with (fail)
    go_quiet (fail)
    have ER := Aside0.mk er
    have EC := Aside0.mk ec
    have hn1 : wrap64 ((n : Int) - 1) = (n : Int) - 1 := by unfold wrap64; omega
    clear er ec xr xc cr cc iw hwr
    by_cases c1 : r < 0
    · rw [if_pos c1] at hz
      obtain rfl := Option.some.inj hz
      have d1 : decide (r < 0) = true := decide_eq_true c1
      clear hz c1
      go_wp2
      go_roundg k1
      case measure => have := HK.out; omega
      case rel => exact ⟨x + 1, s1, a1, rfl, by omega, by have := X.out; omega, ⟨by have := X.out; omega⟩, ⟨by have := HK.out; omega⟩, HR, ⟨HS.out.same f (Same.drewN _ _)⟩, HW, ⟨F.stays _ _ _ HC.out (Same.drewN _ _)⟩, ⟨HF.out.trans (Same.drewN _ _)⟩⟩
    · rw [if_neg c1] at hz
      have d1 : decide (r < 0) = false := decide_eq_false c1
      clear c1
      by_cases c1 : 1 < r
      · rw [if_pos c1] at hz
        obtain rfl := Option.some.inj hz
        have d2 : decide (1 < r) = true := decide_eq_true c1
        clear hz c1
        go_wp2
        go_roundg k1
        case measure => have := HK.out; omega
        case rel => exact ⟨x + 1, s1, a1, rfl, by omega, by have := X.out; omega, ⟨by have := X.out; omega⟩, ⟨by have := HK.out; omega⟩, HR, ⟨HS.out.same f (Same.drewN _ _)⟩, HW, ⟨F.stays _ _ _ HC.out (Same.drewN _ _)⟩, ⟨HF.out.trans (Same.drewN _ _)⟩⟩
      · rw [if_neg c1] at hz
        have d2 : decide (1 < r) = false := decide_eq_false c1
        clear c1
        by_cases c1 : c < 0
        · rw [if_pos c1] at hz
          obtain rfl := Option.some.inj hz
          have d3 : decide (c < 0) = true := decide_eq_true c1
          clear hz c1
          go_wp2
          go_roundg k1
          case measure => have := HK.out; omega
          case rel => exact ⟨x + 1, s1, a1, rfl, by omega, by have := X.out; omega, ⟨by have := X.out; omega⟩, ⟨by have := HK.out; omega⟩, HR, ⟨HS.out.same f (Same.drewN _ _)⟩, HW, ⟨F.stays _ _ _ HC.out (Same.drewN _ _)⟩, ⟨HF.out.trans (Same.drewN _ _)⟩⟩
        · rw [if_neg c1] at hz
          have d3 : decide (c < 0) = false := decide_eq_false c1
          clear c1
          by_cases c1 : 1 < c
          · rw [if_pos c1] at hz
            obtain rfl := Option.some.inj hz
            have d4 : decide (1 < c) = true := decide_eq_true c1
            clear hz c1
            go_wp2
            go_roundg k1
            case measure => have := HK.out; omega
            case rel => exact ⟨x + 1, s1, a1, rfl, by omega, by have := X.out; omega, ⟨by have := X.out; omega⟩, ⟨by have := HK.out; omega⟩, HR, ⟨HS.out.same f (Same.drewN _ _)⟩, HW, ⟨F.stays _ _ _ HC.out (Same.drewN _ _)⟩, ⟨HF.out.trans (Same.drewN _ _)⟩⟩
          · rw [if_neg c1] at hz
            have d4 : decide (1 < c) = false := decide_eq_false c1
            clear c1
            by_cases c1 : (j : Int) = (n : Int) - 1 ∧ r ≠ 1
            · rw [if_pos c1] at hz
              obtain rfl := Option.some.inj hz
              have d5 : ((j : Int) == (n : Int) - 1) = true := by simpa using c1.1
              have d6 : (r != 1) = true := by simpa using c1.2
              clear hz c1
              go_wp2
              go_roundg k1
              case measure => have := HK.out; omega
              case rel => exact ⟨x + 1, s1, a1, rfl, by omega, by have := X.out; omega, ⟨by have := X.out; omega⟩, ⟨by have := HK.out; omega⟩, HR, ⟨HS.out.same f (Same.drewN _ _)⟩, HW, ⟨F.stays _ _ _ HC.out (Same.drewN _ _)⟩, ⟨HF.out.trans (Same.drewN _ _)⟩⟩
            · rw [if_neg c1] at hz
              obtain ⟨y, hy, rfl⟩ := Option.map_eq_some_iff.mp hz
              have HY := Aside0.mk hy
              clear hz hy
              obtain ⟨g, c9, hv, hg1, hg2, hx9, hf9, hput⟩ := HS.out.place f (i : Int) (j : Int) (by omega) (by omega) (by omega) (by omega)
              rw [Int.toNat_natCast] at hv hx9 hf9
              have cv := (blk_cell HS.out.bv 0).trans (rfl : _ = some (Value.slice (some ⟨q.V, 0, none⟩) n q.cv))
              have HPUT := Aside0.mk hput
              have HG1 := Aside0.mk (And.intro hg1 hg2)
              clear hput hg1 hg2
              have d7 : ((j : Int) == (n : Int) - 1) = false ∨ (((j : Int) == (n : Int) - 1) = true ∧ (r != 1) = false) := by
               by_cases e : (j : Int) = (n : Int) - 1
               · right
                 refine ⟨by simpa using e, ?_⟩
                 by_cases e2 : r = 1
                 · simp [e2]
                 · exact absurd ⟨e, e2⟩ c1
               · left
                 simpa using e
              clear c1
              have hlo0 : ∀ k, k < lo0 → ¬ (lo ≤ k ∧ k < hi) := fun k hk => by omega
              have HLO := Aside0.mk hlo0
              clear hlo0
              rcases d7 with d5 | ⟨d5, d6⟩
              all_goals
               go_wp2
               refine named (fun w' => St lo q n w' ⟨s1.t.set i ((rd_L1 s1.t (i : Int)).set j x), s1.rows, s1.cols⟩ ∧ hi ≤ w'.heap.size ∧ Acc w' a1 ∧ Same (fun k => k < lo0) W w') ?_ ?_
               · exact ⟨(HPUT.out x).same f (Same.drewN _ nq), by simpa [World.setCell, World.drewN] using HW.out, F.stays _ _ _ HC.out ((Same.setCell _ ⟨g, j, none⟩ _ (fun hk => hk HG1.out)).trans (Same.drewN _ nq)), HF.out.trans ((Same.setCell _ ⟨g, j, none⟩ _ (fun hk => HLO.out _ hk HG1.out)).trans (Same.drewN _ nq))⟩
               · intro w2 hR2
                 obtain ⟨S2, W2, C2, F2⟩ := hR2
                 clear hv hx9 hf9 cv cn d1 d2 d3 d4 d5
                 try clear d6
                 have cr := (blk_cell S2.br 0).trans (rfl : _ = some (Value.slice (some ⟨q.R, 0, none⟩) n n))
                 have cc := (blk_cell S2.bc 0).trans (rfl : _ = some (Value.slice (some ⟨q.C, 0, none⟩) n n))
                 have xr := S2.row (i : Int) (by omega) (by omega)
                 have xc := S2.col (j : Int) (by omega) (by omega)
                 rw [Int.toNat_natCast] at xr xc
                 obtain ⟨xr1, xr2⟩ := xr
                 obtain ⟨xc1, xc2⟩ := xc
                 obtain ⟨ys1, ys2⟩ := (S2.setR f (i : Int) r).col (j : Int) (by omega) (by omega)
                 obtain ⟨zs1, zs2⟩ := (S2.setC f (j : Int) c).row (i : Int) (by omega) (by omega)
                 rw [Int.toNat_natCast, Int.toNat_natCast] at ys1 ys2 zs1 zs2
                 have cc2 := (blk_cell (S2.setR f (i : Int) r).bc 0).trans (rfl : _ = some (Value.slice (some ⟨q.C, 0, none⟩) n n))
                 have cr2 := (blk_cell (S2.setC f (j : Int) c).br 0).trans (rfl : _ = some (Value.slice (some ⟨q.R, 0, none⟩) n n))
                 rw [Int.toNat_natCast] at cc2 cr2
                 have HS2 := Aside0.mk S2
                 have HW2 := Aside0.mk W2
                 have HC2 := Aside0.mk C2
                 have HF2 := Aside0.mk F2
                 clear S2 W2 C2 F2
                 go_region
                 have R3 : St lo q n (((w2.setCell ⟨q.R, i, none⟩ (.int .i64 r)).setCell ⟨q.C, j, none⟩ (.int .i64 c)).drew) ⟨s1.t.set i ((rd_L1 s1.t (i : Int)).set j x), s1.rows.set i r, s1.cols.set j c⟩ ∧ hi ≤ (((w2.setCell ⟨q.R, i, none⟩ (.int .i64 r)).setCell ⟨q.C, j, none⟩ (.int .i64 c)).drew).heap.size ∧ Acc (((w2.setCell ⟨q.R, i, none⟩ (.int .i64 r)).setCell ⟨q.C, j, none⟩ (.int .i64 c)).drew) a1 ∧ Same (fun k => k < lo0) W (((w2.setCell ⟨q.R, i, none⟩ (.int .i64 r)).setCell ⟨q.C, j, none⟩ (.int .i64 c)).drew) :=
                  ⟨((HS2.out.setR f (i : Int) r).setC f (j : Int) c).same f (Same.drewN _ 1), by simpa [World.setCell, World.drew] using HW2.out, F.stays _ _ _ HC2.out (((Same.setCell _ ⟨q.R, i, none⟩ _ (fun hk => hk f.hR)).trans (Same.setCell _ ⟨q.C, j, none⟩ _ (fun hk => hk f.hC))).trans (Same.drewN _ 1)), HF2.out.trans (((Same.setCell _ ⟨q.R, i, none⟩ _ (fun hk => HLO.out _ hk f.hR)).trans (Same.setCell _ ⟨q.C, j, none⟩ _ (fun hk => HLO.out _ hk f.hC))).trans (Same.drewN _ 1))⟩
                 clear xr1 xr2 xc1 xc2 ys1 ys2 zs1 zs2 cc2 cr2 cr cc HS2 HW2 HC2 HF2
                 revert R3
                 generalize (((w2.setCell ⟨q.R, i, none⟩ (.int .i64 r)).setCell ⟨q.C, j, none⟩ (.int .i64 c)).drew) = w3
                 intro R3
                 obtain ⟨S3, W3, C3, F3⟩ := R3
                 have co := (blk_cell S3.bo 0).trans (rfl : _ = some (Value.func (.func 61) #[] #[.pointer (some ⟨q.bn, 0, none⟩), .pointer (some ⟨q.bc, 0, none⟩), .pointer (some ⟨q.bf, 0, none⟩), .pointer (some ⟨q.bv, 0, none⟩), .pointer (some ⟨q.br, 0, none⟩), .pointer (some ⟨q.bo, 0, none⟩)]))
                 have HI : Aside0 (Calls Try.prog 61 #[.int .i64 ((p : Int) + 1), .pointer (some ⟨q.bn, 0, none⟩), .pointer (some ⟨q.bc, 0, none⟩), .pointer (some ⟨q.bf, 0, none⟩), .pointer (some ⟨q.bv, 0, none⟩), .pointer (some ⟨q.br, 0, none⟩), .pointer (some ⟨q.bo, 0, none⟩)] w3 fun e W' => e = .returned (.tuple #[]) ∧ St lo q n W' y.1 ∧ Acc W' y.2 ∧ Same (fun k => k < lo0) w3 W') := ⟨by
                  have z := ih.out (p + 1) _ y.1 _ y.2 w3 (by have := P1.out; omega) S3 W3 C3 HY.out
                  rw [show ((p + 1 : Nat) : Int) = (p : Int) + 1 from by omega] at z
                  exact z⟩
                 have HW3 := Aside0.mk W3
                 have HF3 := Aside0.mk F3
                 clear S3 W3 C3 F3
                 have p0 : 0 ≤ (p : Int) := by omega
                 have p1 : (p : Int) ≤ 1000000 := by
                  have h1 : (n : Int) * n ≤ 1000 * 1000 := Int.mul_le_mul n2 n2 (by omega) (by omega)
                  have := P2.out
                  omega
                 go_wp2_with (go_at_call 61; refine HI.out.mono ?_; rintro e w4 ⟨rfl, S4, C4, F4⟩; have HS4 := Aside0.mk S4; have HC4 := Aside0.mk C4; have HF4 := Aside0.mk F4; clear S4 C4 F4)
                 clear co p0 p1
                 have cr := (blk_cell HS4.out.br 0).trans (rfl : _ = some (Value.slice (some ⟨q.R, 0, none⟩) n n))
                 have cc := (blk_cell HS4.out.bc 0).trans (rfl : _ = some (Value.slice (some ⟨q.C, 0, none⟩) n n))
                 obtain ⟨xr1, xr2⟩ := HS4.out.row (i : Int) (by omega) (by omega)
                 obtain ⟨xc1, xc2⟩ := HS4.out.col (j : Int) (by omega) (by omega)
                 obtain ⟨ys1, ys2⟩ := (HS4.out.setR f (i : Int) (wrap64 (r - x))).col (j : Int) (by omega) (by omega)
                 obtain ⟨zs1, zs2⟩ := (HS4.out.setC f (j : Int) (wrap64 (c - x))).row (i : Int) (by omega) (by omega)
                 have cc2 := (blk_cell (HS4.out.setR f (i : Int) (wrap64 (r - x))).bc 0).trans (rfl : _ = some (Value.slice (some ⟨q.C, 0, none⟩) n n))
                 have cr2 := (blk_cell (HS4.out.setC f (j : Int) (wrap64 (c - x))).br 0).trans (rfl : _ = some (Value.slice (some ⟨q.R, 0, none⟩) n n))
                 rw [Int.toNat_natCast] at xr1 xr2 xc1 xc2 cc2 cr2
                 rw [Int.toNat_natCast, Int.toNat_natCast] at ys1 ys2 zs1 zs2
                 have iw := i64_w
                 go_region
                 have R5 : St lo q n (((w4.setCell ⟨q.R, i, none⟩ (.int .i64 (wrap64 (r - x)))).setCell ⟨q.C, j, none⟩ (.int .i64 (wrap64 (c - x)))).drew) ⟨y.1.t, y.1.rows.set i (wrap64 (r - x)), y.1.cols.set j (wrap64 (c - x))⟩ ∧ hi ≤ (((w4.setCell ⟨q.R, i, none⟩ (.int .i64 (wrap64 (r - x)))).setCell ⟨q.C, j, none⟩ (.int .i64 (wrap64 (c - x)))).drew).heap.size ∧ Acc (((w4.setCell ⟨q.R, i, none⟩ (.int .i64 (wrap64 (r - x)))).setCell ⟨q.C, j, none⟩ (.int .i64 (wrap64 (c - x)))).drew) y.2 ∧ Same (fun k => k < lo0) W (((w4.setCell ⟨q.R, i, none⟩ (.int .i64 (wrap64 (r - x)))).setCell ⟨q.C, j, none⟩ (.int .i64 (wrap64 (c - x)))).drew) :=
                  ⟨((HS4.out.setR f (i : Int) (wrap64 (r - x))).setC f (j : Int) (wrap64 (c - x))).same f (Same.drewN _ 1), by have := HW3.out; have := HF4.out.size; simp [World.setCell, World.drew]; omega, F.stays _ _ _ HC4.out (((Same.setCell _ ⟨q.R, i, none⟩ _ (fun hk => hk f.hR)).trans (Same.setCell _ ⟨q.C, j, none⟩ _ (fun hk => hk f.hC))).trans (Same.drewN _ 1)), (HF3.out.trans HF4.out).trans (((Same.setCell _ ⟨q.R, i, none⟩ _ (fun hk => HLO.out _ hk f.hR)).trans (Same.setCell _ ⟨q.C, j, none⟩ _ (fun hk => HLO.out _ hk f.hC))).trans (Same.drewN _ 1))⟩
                 clear xr1 xr2 xc1 xc2 ys1 ys2 zs1 zs2 cc2 cr2 cr cc HS4 HC4
                 revert R5
                 generalize (((w4.setCell ⟨q.R, i, none⟩ (.int .i64 (wrap64 (r - x)))).setCell ⟨q.C, j, none⟩ (.int .i64 (wrap64 (c - x)))).drew) = w5
                 intro R5
                 obtain ⟨S5, W5, C5, F5⟩ := R5
                 have HS5 := Aside0.mk S5
                 have HW5 := Aside0.mk W5
                 have HC5 := Aside0.mk C5
                 have HF5 := Aside0.mk F5
                 clear S5 W5 C5 F5 iw
                 go_wp2
                 go_roundg k1
                 case measure => have := HK.out; omega
                 case rel => exact ⟨x + 1, _, y.2, rfl, by omega, by have := X.out; omega, ⟨by have := X.out; omega⟩, ⟨by have := HK.out; omega⟩, HR, HS5, HW5, HC5, HF5⟩


set_option maxHeartbeats 400000 in
/-- The search: from a place on, whatever is called with the tables. -/
theorem on_calls {α : Type} {lo0 lo hi : Nat} {q : Pt} {n : Nat} {fid : FuncId} {fn : Func} {caps : Array Value} {found : List (List Int) → α → Option α} {Acc : World → α → Prop} (hn : 1 ≤ n ∧ n ≤ 1000) (f : q.Fits lo hi)
 (hfn : Try.prog.funcs[fid]? = some fn) (hnm : (fn.name == "runtime.NumGoroutine") = false) (hbd : fn.body.isSome = true) (hfv : q.fv = .func (.func fid) #[] caps) (F : Found lo0 lo hi fid caps found Acc) (h01 : lo0 ≤ lo) (k : Nat) :
 ∀ (p : Nat) (s s' : VS) (a a' : α) (W : World), p ≤ n * n → St lo q n W s → hi ≤ W.heap.size → Acc W a → onF n found k p s a = some (s', a') →
  Calls Try.prog 61 (q.args p) W fun e W' => e = .returned (.tuple #[]) ∧ St lo q n W' s' ∧ Acc W' a' ∧ Same (fun k => k < lo0) W W' := by
 induction k with
 | zero => intro p s s' a a' W hp hs hw ha h; simp [onF] at h
 | succ k ih =>
  intro p s s' a a' W hp hs hw ha h
  simp only [onF] at h
  by_cases e : p = n * n
  · rw [if_pos e] at h
    subst e
    obtain ⟨m, hm, h⟩ := Option.bind_eq_some_iff.mp h
    by_cases e1 : m = 1
    · rw [if_pos e1] at h
      obtain ⟨b, hb, hz⟩ := Option.map_eq_some_iff.mp h
      obtain ⟨rfl, rfl⟩ := Prod.mk.inj hz
      exact on_end hn f hfn hnm hbd hfv F s a b m W ⟨hs⟩ ⟨hw⟩ ⟨ha⟩ ⟨hm⟩ ⟨by rw [if_pos e1]; exact hb⟩
    · rw [if_neg e1] at h
      obtain ⟨rfl, rfl⟩ := Prod.mk.inj (Option.some.inj h)
      exact on_end hn f hfn hnm hbd hfv F s a a m W ⟨hs⟩ ⟨hw⟩ ⟨ha⟩ ⟨hm⟩ ⟨by rw [if_neg e1]⟩
  · rw [if_neg e] at h
    exact on_step hn f F h01 (onF n found k) ⟨ih⟩ p (p / n) (p % n) (by omega) ⟨rfl⟩ ⟨rfl⟩ s s' a a' W ⟨hs⟩ ⟨hw⟩ ⟨ha⟩ ⟨h⟩
end Go.Proofs.Ytdinepghommchaa.V

-- Written by a program of this session over the kit's printer: wip/gp.py.
namespace Go.Proofs.Ytdinepghommchaa.V
open Go.RowKit Go.Proofs.YtdinepghommchaaW.PrintWords Go.Proofs.YtdinepghommchaaW.PrintLast Go.Proofs.YtdinepghommchaaW.PrintMore
attribute [local go_sem] max2_int min2_int max_two min_two max_three min_three max_four min_four   -- for this text's walks alone
set_option linter.unusedVariables false
set_option linter.unusedSimpArgs false

/-! ### veils_made_int: function 59 -/
mutual
def veils_made_int.l0 (g : Int → Int → Option Int) : Nat → Int → List (List Int) → Int → Int → Option ((List (List Int)))
 | 0, _, _, _, _ => none
 | k + 1, x0, x5, x11, x12 => if x12 < x11 then (veils_made_int.l1 g k x0 x5 x12 x11 x12 x0 0) else (some x5)
def veils_made_int.l1 (g : Int → Int → Option Int) : Nat → Int → List (List Int) → Int → Int → Int → Int → Int → Option ((List (List Int)))
 | 0, _, _, _, _, _, _, _ => none
 | k + 1, x0, x5, x6, x11, x12, x15, x16 => if x16 < x15 then (if 0 ≤ x6 then (if x6 < (x5.length : Int) then ((g x6 x16).bind fun t105 => (if (rd_L1 x5 x6).length < 17592186044416 then (veils_made_int.l1 g k x0 (x5.set (x6 : Int).toNat ((rd_L1 x5 x6) ++ [t105])) x6 x11 x12 x15 (wrap64 (x16 + 1))) else (none))) else (none)) else (none)) else (veils_made_int.l0 g k x0 x5 x11 (wrap64 (x12 + 1)))
end
def veils_made_int.f (g : Int → Int → Option Int) (k : Nat) (a0 : Int) : Option ((List (List Int))) := if 0 ≤ a0 then (if (a0 : Int).toNat ≤ 11728124029610 then ((some (List.replicate (a0 : Int).toNat [] : List (List Int))).bind fun y101 => (veils_made_int.l0 g k a0 y101 (y101.length : Int) 0)) else (none)) else (none)
def veils_made_int.T8 : Bool × List (List Nat × List Nat) := (true, [([], []), ([], []), ([], []), ([], []), ([2, 3], [2, 3]), ([4], [4]), ([], []), ([], []), ([], []), ([6, 7, 8], [6, 7, 8]), ([9], [9]), ([5, 10, 9], [5, 10]), ([0, 1, 0, 1, 2, 3, 4, 5, 6, 7, 8, 9, 10, 11], [0, 1]), ([12, 11, 11, 0, 1, 2, 3, 4, 5, 6, 7, 8, 9, 10, 11], [11, 12])])
def veils_made_int.B8 : List Nat := [0, 0, 0, 0, 12, 28, 0, 0, 0, 448, 960, 2044, 4095, 8191]
theorem veils_made_int.tab8 : rtab .any (opsOf Try.f59 8) = veils_made_int.T8 := by kernel_rfl
theorem veils_made_int.bits8 : waitsOk veils_made_int.T8.2 veils_made_int.B8 = true := by kernel_rfl
set_option maxHeartbeats 8000000 in
set_option maxRecDepth 100000 in
theorem veils_made_int.calls (g : Int → Int → Option Int) {fid : FuncId} {fn : Func} (hfn : Try.prog.funcs[fid]? = some fn) (hnm : (fn.name == "runtime.NumGoroutine") = false) (hbd : fn.body.isSome = true) (caps : Array Value) (k : Nat) (a0 : Int) (r : List (List Int)) (w : World)
 (hg_ : Aside0 (∀ (i j x : Int) (W : World), Below w.heap.size w W → g i j = some x → Calls Try.prog fid (#[.int .i64 i, .int .i64 j] ++ caps) W fun e W' => e = .returned (.int .i64 x) ∧ Below W.heap.size W W')) (h : veils_made_int.f g k a0 = some r) :
 Calls Try.prog 59 #[.int .i64 a0, .func (.func fid) #[] caps] w fun e w' => ∃ v0_ : Value, e = .returned (v0_) ∧ Kd.S (Kd.slice 3 (Kd.int .i64)) 28 w' w.heap.size (fun _ => True) v0_ r ∧ Below w.heap.size w w' := by
 have HB := Aside0.mk (Below.refl w.heap.size w)
 have H : (if 0 ≤ a0 then (if (a0 : Int).toNat ≤ 11728124029610 then ((some (List.replicate (a0 : Int).toNat [] : List (List Int))).bind fun y101 => (veils_made_int.l0 g k a0 y101 (y101.length : Int) 0)) else (none)) else (none)) = some r := h
 clear h
 by_cases c3 : 0 ≤ a0
 · rw [if_pos c3] at H
   have c3b0 := eq_true c3
   have c3b1 : decide (0 ≤ a0) = true := decide_eq_true c3
   clear c3
   by_cases c4 : (a0 : Int).toNat ≤ 11728124029610
   · rw [if_pos c4] at H
     have c4b0 := eq_true c4
     have c4b1 : decide ((a0 : Int).toNat ≤ 11728124029610) = true := decide_eq_true c4
     clear c4
     obtain ⟨y101, hy101⟩ : ∃ y_ : List (List Int), y_ = (List.replicate (a0 : Int).toNat []) := ⟨_, rfl⟩
     replace H : (veils_made_int.l0 g k a0 y101 (y101.length : Int) 0) = some r := by first | (rw [hy101]; with_reducible exact H) | (have H2_ := (Option.bind_some _ _).symm.trans H; rw [hy101]; with_reducible exact H2_) | (have H2_ := (Option.bind_some _ _).symm.trans H; with_reducible exact H2_) | with_reducible exact H | (rw [hy101]; exact H) | exact H
     have Ny101 := Aside0.mk hy101
     clear hy101
     have H' := Aside0.mk H
     clear H
     go_enter Try.func59, Try.ntmps59
     go_wp2_with (first | ((with_reducible refine gate_dst (N := 9) rfl ?_); refine Kd.S_make (Kd.slice 3 (Kd.int .i64)) _ 28 rfl (N := 9) rfl 63 _ _ rfl a0 rfl rfl Try.underlying63 (.slice none 0 0) 24 info28 rfl (by decide) (by omega) [] (ok := fun _ => True) (okp := fun _ => True) ⟨_, rfl, Kd.R_nil _ _ _ _ _⟩ (fun _ hk => hk) trivial (od_) (Nat.le_trans (Nat.mul_le_mul_right _ (od_ : a0.toNat ≤ 11728124029610)) (by omega)) (Below.refl _ _) (Nat.le_refl _) ?_; intro v102 w5 ho6 hb hg_ hnew_; clear hg_ hnew_; (first | rw [← Ny101.out] at ho6 | (simp only [Int.reduceToNat] at ho6; rw [← Ny101.out] at ho6)); have n0_ := Aside0.mk (Kd.S_lower ho6 (below_size (bel_))); have n1_ := Aside0.mk (below_step (bel_) hb); clear HB; have HO103 := n0_; have HB := n1_; clear n0_ n1_; clear hb ho6; obtain ⟨Ao7, co7, eo7⟩ := Kd.S_slice HO103.out; subst eo7))
     go_loopg [12] k (fun kq v12 w' => ∃ (x5_1 : List (List Int)) (x12_1 : Int), v12 = .int .i64 x12_1 ∧ Aside0 (veils_made_int.l0 g kq a0 x5_1 (y101.length : Int) x12_1 = some r) ∧ Aside0 (kq ≤ k) ∧ Aside0 (Kd.S (Kd.slice 3 (Kd.int .i64)) 28 w' w.heap.size (fun _ => True) (.slice Ao7 y101.length co7) x5_1) ∧ Aside0 (Below w.heap.size w w'))
     case atStart => exact ⟨(y101), (0), rf_, H', ⟨Nat.le_refl _⟩, ⟨nS_ HO103.out⟩, ⟨bel_⟩⟩
     case round =>
      clear H'
      try clear p2
      try clear c3
      try clear c3b0
      try clear c3b1
      try clear c4
      try clear c4b0
      try clear c4b1
      try clear c5
      obtain ⟨x5_1, x12_1, rfl, HA, HK1, HO_5, HB⟩ := hrel
      have hl5_1 := (Kd.S_reads' HO_5.out).1
      rw [hl5_1] at HO_5
      (try simp only [hl5_1])
      cases gk with
      | zero => exact absurd HA.out (by simp [veils_made_int.l0])
      | succ k1 =>
       have H := HA.out
       clear HA
       simp only [veils_made_int.l0] at H
       by_cases c8 : x12_1 < (y101.length : Int)
       · rw [if_pos c8] at H
         have c8b0 : decide (x12_1 < (x5_1.length : Int)) = true := decide_eq_true (by rw [← hl5_1]; exact c8)
         clear c8
         have H' := Aside0.mk H
         clear H
         go_wp2
         go_loopg [16] k1 (fun kq v16 w' => ∃ (x5_2 : List (List Int)) (x16_2 : Int), v16 = .int .i64 x16_2 ∧ Aside0 (veils_made_int.l1 g kq a0 x5_2 x12_1 (y101.length : Int) x12_1 a0 x16_2 = some r) ∧ Aside0 (kq ≤ k1) ∧ Aside0 (Kd.S (Kd.slice 3 (Kd.int .i64)) 28 w' w.heap.size (fun _ => True) (.slice Ao7 x5_1.length co7) x5_2) ∧ Aside0 (Below w.heap.size w w'))
         case atStart => exact ⟨(x5_1), (0), rf_, H', ⟨Nat.le_refl _⟩, ⟨by (try simp only [hl5_1]); (with_reducible repeat (first | apply Kd.S_alloc | apply Kd.S_drewN | apply Kd.S_drew)); exact HO_5.out⟩, ⟨bel_⟩⟩
         case round =>
          clear H'
          try clear p2
          try clear c3
          try clear c3b0
          try clear c3b1
          try clear c4
          try clear c4b0
          try clear c4b1
          try clear c5
          try clear c8
          try clear c8b0
          try clear p2
          obtain ⟨x5_2, x16_2, rfl, HA, HK2, HO_5, HB⟩ := hrel
          have hl5_2 := (Kd.S_reads' HO_5.out).1
          rw [hl5_2] at HO_5
          (try simp only [hl5_2])
          cases gk with
          | zero => exact absurd HA.out (by simp [veils_made_int.l1])
          | succ k2 =>
           have H := HA.out
           clear HA
           simp only [veils_made_int.l1] at H
           by_cases c9 : x16_2 < a0
           · rw [if_pos c9] at H
             have c9b0 : decide (x16_2 < a0) = true := decide_eq_true c9
             clear c9
             by_cases c10 : 0 ≤ x12_1
             · rw [if_pos c10] at H
               have c10b0 : decide (0 ≤ x12_1) = true := decide_eq_true c10
               clear c10
               by_cases c11 : x12_1 < (x5_2.length : Int)
               · rw [if_pos c11] at H
                 have c11b0 : decide (x12_1 < (x5_2.length : Int)) = true := decide_eq_true c11
                 clear c11
                 replace H := Option.bind_eq_some_iff.mp H
                 obtain ⟨t105, A120, H⟩ := H
                 replace H : (if (rd_L1 x5_2 x12_1).length < 17592186044416 then (veils_made_int.l1 g k2 a0 (x5_2.set (x12_1 : Int).toNat ((rd_L1 x5_2 x12_1) ++ [t105])) x12_1 (y101.length : Int) x12_1 a0 (wrap64 (x16_2 + 1))) else (none)) = some r := H
                 have A12 := Aside0.mk A120
                 clear A120
                 by_cases c13 : (rd_L1 x5_2 x12_1).length < 17592186044416
                 · rw [if_pos c13] at H
                   have LMc13 := Aside0.mk c13
                   clear c13
                   obtain ⟨y106, hy106⟩ : ∃ y_ : List Int, y_ = ((rd_L1 x5_2 x12_1) ++ [t105]) := ⟨_, rfl⟩
                   replace H : (veils_made_int.l1 g k2 a0 (x5_2.set (x12_1 : Int).toNat y106) x12_1 (y101.length : Int) x12_1 a0 (wrap64 (x16_2 + 1))) = some r := by first | (rw [hy106]; with_reducible exact H) | (have H2_ := (Option.bind_some _ _).symm.trans H; rw [hy106]; with_reducible exact H2_) | (have H2_ := (Option.bind_some _ _).symm.trans H; with_reducible exact H2_) | with_reducible exact H | (rw [hy106]; exact H) | exact H
                   have Ny106 := Aside0.mk hy106
                   clear hy106
                   obtain ⟨y109, hy109⟩ : ∃ y_ : List (List Int), y_ = (x5_2.set (x12_1 : Int).toNat y106) := ⟨_, rfl⟩
                   replace H : (veils_made_int.l1 g k2 a0 y109 x12_1 (y101.length : Int) x12_1 a0 (wrap64 (x16_2 + 1))) = some r := by first | (rw [hy109]; with_reducible exact H) | (have H2_ := (Option.bind_some _ _).symm.trans H; rw [hy109]; with_reducible exact H2_) | (have H2_ := (Option.bind_some _ _).symm.trans H; with_reducible exact H2_) | with_reducible exact H | (rw [hy109]; exact H) | exact H
                   have Ny109 := Aside0.mk hy109
                   clear hy109
                   have H' := Aside0.mk H
                   clear H
                   try go_wp2
                   have n0_ := Aside0.mk (Kd.S_drew HO_5.out)
                   have n1_ := Aside0.mk (below_drew1 HB.out)
                   clear HO_5
                   clear HB
                   have HO_5 := n0_
                   have HB := n1_
                   clear n0_ n1_
                   have p104 : 0 ≤ (x12_1 : Int) := od_
                   have q104 : x12_1 < (x5_2.length : Int) := od_
                   obtain ⟨ad104, A104_0, c104_0, e104, hx104_0, hl104_0, hi104_0⟩ := at_L1 (Kd.S_reads' HO_5.out).2.2 x12_1 p104 q104
                   cases e104
                   obtain ⟨ce104, hce104, hMe104, hcc104⟩ := Kd.S_get HO_5.out [] x12_1 p104 (by first | exact q104 | exact od_ | (have e_ := (Kd.S_reads' HO_5.out).1; omega))
                   obtain ⟨ve104_0, rfl, ge104_0⟩ := hMe104
                   have hv104_0 := hcc104 0 _ rfl
                   rw [Nat.add_zero, show ((Kd.slice 3 (Kd.int .i64))).sz = 1 from rfl, Nat.mul_one] at hv104_0
                   replace hv104_0 := Option.some.inj (hv104_0.symm.trans hx104_0)
                   rw [hv104_0] at ge104_0
                   have HL104_0 := Aside0.mk (show Kd.R (Kd.int .i64) 3 _ _ _ _ (rd_L1 x5_2 x12_1) from ge104_0)
                   clear hv104_0 ge104_0
                   have HX104_0 := Aside0.mk hx104_0
                   clear hcc104 hce104
                   have HR104_0 := Aside0.mk hi104_0
                   have HC104_0 := Aside0.mk hl104_0
                   clear hi104_0 hl104_0
                   replace p104 := eq_true p104
                   replace q104 := eq_true q104
                   refine start_ (n := 14) (S := fun w' => w'.cell? (ad104.add (x12_1).toNat) = some (.slice A104_0 (rd_L1 x5_2 x12_1).length c104_0)) (ds := [13]) #[false, false, false, false, false, false, false, false, false, false, false, false, false, false] (by kernel_rfl) rfl rfl (hx104_0) (fun hHeld => ?_); refine with_tabW veils_made_int.tab8 veils_made_int.bits8 (fun HT_ HW_ => ?_)
                   generalize wr.drew = w15 at HO_5 HB HL104_0 HR104_0 HX104_0 hx104_0 hHeld ⊢
                   refine pure_ (i := 0) (N := some 19) (v := ?_) (a' := ?_) #[true, false, false, false, false, false, false, false, false, false, false, false, false, false] rfl rfl (any_of HT_.out (by kernel_rfl)) (fun _ _ _ h => h) (Or.inl ⟨by rfl, ?_⟩) ?_ ?_
                   rotate_left
                   · intro w'
                     go_simp
                     with_reducible rfl
                   rotate_left
                   · simp only [Act.put, List.setIfInBounds_toArray, List.set_cons_zero, List.set_cons_succ, i64_w, i32_w]
                     rfl
                   refine pure_ (i := 1) (N := some 20) (v := ?_) (a' := ?_) #[true, true, false, false, false, false, false, false, false, false, false, false, false, false] rfl rfl (any_of HT_.out (by kernel_rfl)) (fun _ _ _ h => h) (Or.inl ⟨by rfl, ?_⟩) ?_ ?_
                   rotate_left
                   · intro w'
                     go_simp
                     with_reducible rfl
                   rotate_left
                   · simp only [Act.put, List.setIfInBounds_toArray, List.set_cons_zero, List.set_cons_succ, i64_w, i32_w]
                     rfl
                   refine pure_ (i := 2) (N := some 21) (v := ?_) (a' := ?_) #[true, true, true, false, false, false, false, false, false, false, false, false, false, false] rfl rfl (any_of HT_.out (by kernel_rfl)) (fun _ _ _ h => h) (Or.inl ⟨by rfl, ?_⟩) ?_ ?_
                   rotate_left
                   · intro w'
                     go_simp
                     with_reducible rfl
                   rotate_left
                   · simp only [Act.put, List.setIfInBounds_toArray, List.set_cons_zero, List.set_cons_succ, i64_w, i32_w]
                     rfl
                   refine pure_ (i := 3) (N := some 22) (v := ?_) (a' := ?_) #[true, true, true, true, false, false, false, false, false, false, false, false, false, false] rfl rfl (any_of HT_.out (by kernel_rfl)) (fun _ _ _ h => h) (Or.inl ⟨by rfl, ?_⟩) ?_ ?_
                   rotate_left
                   · intro w'
                     go_simp
                     with_reducible rfl
                   rotate_left
                   · simp only [Act.put, List.setIfInBounds_toArray, List.set_cons_zero, List.set_cons_succ, i64_w, i32_w]
                     rfl
                   refine pure_ (i := 4) (N := some 23) (v := ?_) (a' := ?_) #[true, true, true, true, true, false, false, false, false, false, false, false, false, false] rfl rfl (any_of HT_.out (by kernel_rfl)) (fun _ _ _ h => h) (Or.inl ⟨by rfl, ?_⟩) ?_ ?_
                   rotate_left
                   · intro w'
                     go_simp
                     with_reducible rfl
                   rotate_left
                   · simp only [Act.put, List.setIfInBounds_toArray, List.set_cons_zero, List.set_cons_succ, i64_w, i32_w]
                     rfl
                   refine pure_ (i := 6) (N := some 25) (v := ?_) (a' := ?_) #[true, true, true, true, true, false, true, false, false, false, false, false, false, false] rfl rfl (any_of HT_.out (by kernel_rfl)) (fun _ _ _ h => h) (Or.inl ⟨by rfl, ?_⟩) ?_ ?_
                   rotate_left
                   · intro w'
                     go_simp
                     with_reducible rfl
                   rotate_left
                   · simp only [Act.put, List.setIfInBounds_toArray, List.set_cons_zero, List.set_cons_succ, i64_w, i32_w]
                     rfl
                   refine pure_ (i := 7) (N := some 26) (v := ?_) (a' := ?_) #[true, true, true, true, true, false, true, true, false, false, false, false, false, false] rfl rfl (any_of HT_.out (by kernel_rfl)) (fun _ _ _ h => h) (Or.inl ⟨by rfl, ?_⟩) ?_ ?_
                   rotate_left
                   · intro w'
                     go_simp
                     with_reducible rfl
                   rotate_left
                   · simp only [Act.put, List.setIfInBounds_toArray, List.set_cons_zero, List.set_cons_succ, i64_w, i32_w]
                     rfl
                   refine pure_ (i := 8) (N := some 27) (v := ?_) (a' := ?_) #[true, true, true, true, true, false, true, true, true, false, false, false, false, false] rfl rfl (any_of HT_.out (by kernel_rfl)) (fun _ _ _ h => h) (Or.inl ⟨by rfl, ?_⟩) ?_ ?_
                   rotate_left
                   · intro w'
                     go_simp
                     with_reducible rfl
                   rotate_left
                   · simp only [Act.put, List.setIfInBounds_toArray, List.set_cons_zero, List.set_cons_succ, i64_w, i32_w]
                     rfl
                   refine take_ (i := 5) (N := some 24) (v := ?_) (a' := ?_) #[true, true, true, true, true, true, true, true, true, false, false, false, false, false] rfl rfl (take_ofW HT_.out HW_.out (by kernel_rfl)) (fun _ _ _ h => h) (Or.inl ⟨by rfl, ?_⟩) hHeld ?_ ?_
                   rotate_left
                   · intro w' s0
                     go_simp
                     with_reducible rfl
                   rotate_left
                   · simp only [Act.put, List.setIfInBounds_toArray, List.set_cons_zero, List.set_cons_succ, i64_w, i32_w]
                     rfl
                   refine one_ (i := 9) (N := some 28) #[true, true, true, true, true, true, true, true, true, true, false, false, false, false] rfl rfl (one_of HT_.out (by kernel_rfl)) (by decide) (fun K hK => ?_)
                   refine H.goesV_ (x := .tmp 25) (caps := caps) hfn hnm hbd (#[.int .i64 x12_1, .int .i64 x16_2] ++ caps) (by rfl) rfl rfl rfl (by (try simp only [List.map_toArray, List.map_cons, List.map_nil]); first | done | rfl) ?_
                   with_reducible refine (hg_.out x12_1 x16_2 t105 _ (bel_) A12.out).mono ?_
                   rintro e w16 ⟨rfl, hb⟩
                   have HS0_ := (hb.cell (World.block_lt_of_cell? _ _ (hHeld))).trans (hHeld)
                   refine ⟨_, rfl, ?_⟩
                   have n0_ := Aside0.mk (Kd.S_below (nS_ HO_5.out) hb)
                   have n1_ := Aside0.mk (Kd.R_below (nR_ HL104_0.out) hb)
                   have n2_ := Aside0.mk (Kd.C_below (by repeat (first | (with_reducible exact HR104_0.out) | (with_reducible refine Kd.C_alloc ?_ _) | (with_reducible refine Kd.C_drewN ?_ _) | (with_reducible refine Kd.C_drew ?_) | exact HR104_0.out)) hb)
                   have n3_ := Aside0.mk (pw_cell_below hb HX104_0.out)
                   have n4_ := Aside0.mk (below_step (bel_) hb)
                   clear HO_5
                   clear HL104_0
                   clear HR104_0
                   clear HX104_0
                   clear HB
                   have HO_5 := n0_
                   have HL104_0 := n1_
                   have HR104_0 := n2_
                   have HX104_0 := n3_
                   have HB := n4_
                   clear n0_ n1_ n2_ n3_ n4_
                   (try clear hb)
                   (try clear hb2)
                   (try clear hk)
                   (try clear hi)
                   obtain ⟨go17, co17, eo17, gb17, gl17, cl17, HG17⟩ := Kd.S_form HO_5.out (by have h_ : (x12_1 : Int) < ((x5_2.length : Int) : Int) := od_; have h2_ : 0 ≤ (x12_1 : Int) := (od_); omega)
                   (first | cases eo17 | (injection eo17 with ea_ en_ ec_; (first | subst ea_ | (injection ea_ with ea_; subst ea_)); subst ec_; clear en_))
                   have GB17 := Aside0.mk gb17
                   have GG17 := Aside0.mk HG17
                   clear gb17 gl17 HG17
                   (first | simp only [add_plain] at hx104_0 | skip)
                   obtain ⟨oki17, ce17, hcl17, hM17, hcc17, _, _, hH17⟩ := Kd.S_elem HO_5.out [] (x12_1 : Int) (od_) (by have h_ : (x12_1 : Int) < ((x5_2.length : Int) : Int) := od_; first | exact h_ | (have e_ := (Kd.S_reads' HO_5.out).1; omega) | simpa using h_)
                   obtain ⟨ve17_0, rfl, ge17_0⟩ := hM17
                   have hv17 := hcc17 0 _ rfl
                   have hX17 := HX104_0.out
                   (try simp only [add_plain] at hX17)
                   (try simp only [Nat.add_zero] at hv17)
                   (try rw [show ((Kd.slice 3 (Kd.int .i64))).sz = 1 from rfl, Nat.mul_one] at hv17)
                   replace hv17 := Option.some.inj (hv17.symm.trans hX17)
                   subst hv17
                   clear hX17 hcc17 hcl17
                   have UU17 := Aside0.mk (show Kd.R (Kd.int .i64) 3 _ w.heap.size oki17 (.slice A104_0 (rd_L1 x5_2 x12_1).length c104_0) (rd_L1 x5_2 x12_1) from ge17_0)
                   have HH17 := Aside0.mk hH17
                   have HN17 := Aside0.mk (Kd.S_reads' HO_5.out).1
                   clear hH17 ge17_0
                   refine hK.out _ _ (HS0_) (fun hHeld => ?_)
                   clear hK K
                   refine norm_ (a' := ?_) ?_ ?_
                   rotate_left
                   · show Act.put _ (some 28) _ = _
                     simp only [Act.put, List.setIfInBounds_toArray, List.set_cons_zero, List.set_cons_succ, i64_w, i32_w]
                     rfl
                   refine one_ (i := 10) (N := some 29) #[true, true, true, true, true, true, true, true, true, true, true, false, false, false] rfl rfl (one_of HT_.out (by kernel_rfl)) (by decide) (fun K hK => ?_)
                   refine value_ (w1 := ?_) (v := ?_) (by rfl) rfl ?_ ?_
                   rotate_left 2
                   · go_simp
                     constructor
                     · rfl
                     · rfl
                   refine hK.out _ _ ((World.cell?_alloc_lt _ _ _ (World.block_lt_of_cell? _ _ (hHeld))).trans (hHeld)) (fun hHeld => ?_)
                   clear hK K
                   refine norm_ (a' := ?_) ?_ ?_
                   rotate_left
                   · show Act.put _ (some 29) _ = _
                     simp only [Act.put, List.setIfInBounds_toArray, List.set_cons_zero, List.set_cons_succ, i64_w, i32_w]
                     rfl
                   refine one_ (i := 11) (N := some 30) #[true, true, true, true, true, true, true, true, true, true, true, true, false, false] rfl rfl (one_of HT_.out (by kernel_rfl)) (by decide) (fun K hK => ?_)
                   refine Kd.R_append_step (Kd.int .i64) (w0 := w) w.heap.size (by rfl) (.tmp 24) (.tmp 29) 28 3 (.int .i64 0) 8 rfl Try.underlying28 info3 rfl (by decide) (by omega) (.slice A104_0 (rd_L1 x5_2 x12_1).length c104_0) (rd_L1 x5_2 x12_1) t105 [.int .i64 t105] (fun k_ => oki17 k_ ∨ ((fun _ => True)) k_ ∧ w16.heap.size ≤ k_) (fun _ => False) rfl rfl ?aP (fun _ hk => hk.elim) ?aF ?aO ?aB ?aS ?aL ?_
                   (case aP => exact rfl)
                   (case aB => exact (bel_))
                   (case aF => exact (fun k_ hk => .inr ⟨trivial, hk⟩))
                   (case aO => exact (by (with_reducible repeat (first | apply Kd.R_alloc | apply Kd.R_drewN | apply Kd.R_drew)); exact Kd.R_mono UU17.out (fun _ hk => .inl hk)))
                   (case aS => exact (below_size (bel_)))
                   (case aL => have := LMc13.out; omega)
                   intro v107 w18 ho hb hg hat
                   (first | have HS0_ := cell_grown hg (hHeld) (by first | (rw [add_block]; exact (fun e_ => ((HL104_0.out.1 _ e_.symm).2) rfl)) | (show some (Addr.add _ _).block ≠ _; rw [add_block]; exact (fun e_ => ((HL104_0.out.1 _ e_.symm).2) rfl)) | exact (fun e_ => ((HL104_0.out.1 _ e_.symm).2) rfl)) | have HS0_ := cell_grown hg (cell_unalloc (hHeld) (by first | (rw [add_block]; exact Kd.S_lt HO_5.out _ rfl) | (show (Addr.add _ _).block < _; rw [add_block]; exact Kd.S_lt HO_5.out _ rfl) | exact Kd.S_lt HO_5.out _ rfl)) (by first | (rw [add_block]; exact (fun e_ => ((HL104_0.out.1 _ e_.symm).2) rfl)) | (show some (Addr.add _ _).block ≠ _; rw [add_block]; exact (fun e_ => ((HL104_0.out.1 _ e_.symm).2) rfl)) | exact (fun e_ => ((HL104_0.out.1 _ e_.symm).2) rfl)))
                   rw [← Ny106.out] at ho
                   have n0_ := Aside0.mk (hb)
                   have n1_ := Aside0.mk (Kd.H_grown (Kd.H_widen (by repeat (first | exact HH17.out | refine Kd.H_alloc ?_ _ | refine Kd.H_drewN ?_ _ | refine Kd.H_drew ?_))) hg (fun k_ e_ => .inl (UU17.out.1 k_ e_)))
                   have n2_ := Aside0.mk (ho)
                   clear HB
                   clear HH17
                   clear HO_5
                   clear UU17
                   clear HL104_0
                   have HB := n0_
                   have HH17 := n1_
                   have HO108 := n2_
                   clear n0_ n1_ n2_
                   clear ho hb hg hat
                   have p14 : 0 ≤ (x12_1 : Int) := od_
                   have q14 : (x12_1 : Int) < ((x5_2.length : Int) : Int) := od_
                   replace p14 := eq_true p14
                   replace q14 := eq_true q14
                   obtain ⟨Ao21, co21, eo21⟩ := Kd.R_slice HO108.out
                   (first | subst eo21 | (injection eo21 with f1_ f2_ f3_; have f4_ := f1_.symm; have f5_ := f3_.symm; clear f1_ f2_ f3_; subst f4_; subst f5_))
                   obtain ⟨_, _, hraw19, _, _, hcc19, _⟩ := Kd.H_raw HH17.out (od_) (by have h_ : (x12_1 : Int) < ((x5_2.length : Int) : Int) := od_; first | exact h_ | (have e_ := (HN17.out); omega) | simpa using h_)
                   obtain ⟨_, hfr19⟩ := Kd.H_at HH17.out (od_) (by have h_ : (x12_1 : Int) < ((x5_2.length : Int) : Int) := od_; first | exact h_ | (have e_ := (HN17.out); omega) | simpa using h_)
                   have hx19_0 := hcc19 0 _ rfl
                   have hf19_0 := hfr19 0
                   (try simp only [Nat.add_zero] at hx19_0 hf19_0)
                   (try rw [show ((Kd.slice 3 (Kd.int .i64))).sz = 1 from rfl, Nat.mul_one] at hx19_0)
                   (try rw [show ((Kd.slice 3 (Kd.int .i64))).sz = 1 from rfl, Nat.mul_one] at hf19_0)
                   have HP19 := Kd.S_seg0 HH17.out (od_) (by have h_ : (x12_1 : Int) < ((x5_2.length : Int) : Int) := od_; first | exact h_ | (have e_ := (HN17.out); omega) | simpa using h_) (seg := [.slice Ao21 y106.length co21]) (j := 0) (show 1 ≤ 1 from by decide) (x' := y106) (Kd.M_row HO108.out) (fun _ hk => hk)
                   (try simp only [show ((Kd.slice 3 (Kd.int .i64))).sz = 1 from rfl, Nat.mul_one, Nat.add_zero] at HP19)
                   clear hcc19 hfr19
                   have HS19 := HP19.1
                   rw [← Ny109.out] at HS19
                   have HQ19 := Aside0.mk HS19
                   obtain ⟨_, hgg19⟩ := Kd.R_typed hraw19 go17 rfl
                   have GG19_ := Aside0.mk hgg19
                   clear HP19 HS19 hgg19
                   refine hK.out _ _ (HS0_) (fun hHeld => ?_)
                   clear hK K
                   refine norm_ (a' := ?_) ?_ ?_
                   rotate_left
                   · show Act.put _ (some 30) _ = _
                     simp only [Act.put, List.setIfInBounds_toArray, List.set_cons_zero, List.set_cons_succ, i64_w, i32_w]
                     rfl
                   refine pure_ (i := 12) (N := some 31) (v := ?_) (a' := ?_) #[true, true, true, true, true, true, true, true, true, true, true, true, true, false] rfl rfl (any_of HT_.out (by kernel_rfl)) (fun _ _ _ h => h) (Or.inl ⟨by rfl, ?_⟩) ?_ ?_
                   rotate_left
                   · intro w'
                     go_simp
                     with_reducible rfl
                   rotate_left
                   · simp only [Act.put, List.setIfInBounds_toArray, List.set_cons_zero, List.set_cons_succ, i64_w, i32_w]
                     rfl
                   refine last_ (i := 13) (N := none) #[true, true, true, true, true, true, true, true, true, true, true, true, true, true] rfl rfl (one_of HT_.out (by kernel_rfl)) (by decide) (fun K hK => ?_)
                   refine skip_ (w1 := ?_) (by rfl) rfl ?_ ?_
                   rotate_left
                   · go_simp
                     rfl
                   refine hK.out _ _ ?_
                   clear hK K
                   refine done_ (done_of HT_.out (by kernel_rfl)) ?_
                   try go_wp2
                   (try simp only [← hl5_2])
                   go_roundg k2
                   case measure => have := HK1.out; have := HK2.out; omega
                   case rel => exact ⟨(y109), (wrap64 (x16_2 + 1)), rf_, H', ⟨by have := HK1.out; have := HK2.out; omega⟩, ⟨by (try simp only [hl5_1]); (try simp only [hl5_2]); (with_reducible repeat (first | apply Kd.S_alloc | apply Kd.S_drewN | apply Kd.S_drew)); exact HQ19.out⟩, ⟨by repeat (first | (with_reducible first | exact HB.out | apply below_alloc | apply pw_below_drewN | apply below_drew1 | refine below_set ?_ GB17.out) | exact HB.out)⟩⟩
                 · rw [if_neg c13] at H
                   exact absurd H (by simp)
               · rw [if_neg c11] at H
                 exact absurd H (by simp)
             · rw [if_neg c10] at H
               exact absurd H (by simp)
           · rw [if_neg c9] at H
             have c9b0 : decide (x16_2 < a0) = false := decide_eq_false c9
             clear c9
             have H' := Aside0.mk H
             clear H
             go_wp2
             (try simp only [← hl5_1, ← hl5_2])
             go_roundg k2
             case measure => have := HK1.out; have := HK2.out; omega
             case rel => exact ⟨(x5_2), (wrap64 (x12_1 + 1)), rf_, H', ⟨by have := HK1.out; have := HK2.out; omega⟩, ⟨by (try simp only [hl5_1]); (try simp only [hl5_2]); (with_reducible repeat (first | apply Kd.S_alloc | apply Kd.S_drewN | apply Kd.S_drew)); exact HO_5.out⟩, ⟨bel_⟩⟩
       · rw [if_neg c8] at H
         have c8b0 : decide (x12_1 < (x5_1.length : Int)) = false := decide_eq_false (by rw [← hl5_1]; exact c8)
         clear c8
         obtain rfl := Option.some.inj H
         go_wp2
         go_ret
         exact ⟨_, er_, by (with_reducible repeat (first | apply Kd.S_alloc | apply Kd.S_drewN | apply Kd.S_drew)); exact HO_5.out, bel_⟩
   · rw [if_neg c4] at H
     exact absurd H (by simp)
 · rw [if_neg c3] at H
   exact absurd H (by simp)

end Go.Proofs.Ytdinepghommchaa.V

/- The walk of 'all': the table, the rows of sums and the boxes are made, and the search begins. -/
namespace Go.Proofs.Ytdinepghommchaa.V
open Go.RowKit Go.Proofs.YtdinepghommchaaW.PrintWords Go.Proofs.YtdinepghommchaaW.PrintLast Go.Proofs.YtdinepghommchaaW.PrintMore
set_option linter.unusedVariables false
set_option linter.unusedSimpArgs false

/-- all's first closure: a zero for each place. -/
theorem veils_all1.calls (i j : Int) (w : World) : Calls Try.prog 60 #[.int .i64 i, .int .i64 j] w fun e w' => e = .returned (.int .i64 0) ∧ w = w' := by
 go_enter Try.func60, Try.ntmps60
 go_wp2
 go_ret
 exact ⟨rfl, rfl⟩

theorem made_zero (n : Nat) (h1 : 1 ≤ n) (h5 : n ≤ 5) : veils_made_int.f (fun _ _ => some 0) 1000 (n : Int) = some (List.replicate n (List.replicate n 0)) := by
 obtain rfl | rfl | rfl | rfl | rfl : n = 1 ∨ n = 2 ∨ n = 3 ∨ n = 4 ∨ n = 5 := by omega
 all_goals decide +kernel

/-- The four blocks that are made in either order: the rows of sums, and their boxes. -/
structure Fresh (n : Nat) (w wc : World) (br bc R C : Nat) : Prop where
 hbr : wc.heap[br]? = some (.cells #[.slice (some ⟨R, 0, none⟩) n n] 28 (0, 0))
 hbc : wc.heap[bc]? = some (.cells #[.slice (some ⟨C, 0, none⟩) n n] 28 (0, 0))
 hR : wc.heap[R]? = some (.cells (madeCells #[.int .i64 0] n) 3 (0, 0))
 hC : wc.heap[C]? = some (.cells (madeCells #[.int .i64 0] n) 3 (0, 0))
 lt : w.heap.size ≤ br ∧ w.heap.size ≤ bc ∧ w.heap.size ≤ R ∧ w.heap.size ≤ C
 ne : br ≠ bc ∧ br ≠ R ∧ br ≠ C ∧ bc ≠ R ∧ bc ≠ C ∧ R ≠ C
 below : Below w.heap.size w wc

theorem made_row {W : World} {g base n : Nat} (h : W.heap[g]? = some (.cells (madeCells #[.int .i64 0] n) 3 (0, 0))) (hb : base ≤ g) (hn : n ≤ 1000) :
 Kd.R (Kd.int .i64) 3 W base (fun k => k = g) (.slice (some ⟨g, 0, none⟩) n n) (List.replicate n 0) := by
 have hl : (madeCells #[Value.int .i64 0] n).toList = encs (Value.int .i64) (List.replicate n (0 : Int)) := by
  apply List.ext_getElem
  · simp [encs, madeCells]
  · intro i h1 h2
    simp [encs, madeCells, Nat.mod_one]
 refine Kd.R_of_own (enc := Value.int .i64) ⟨by simp [encs], .inr ⟨g, n, madeCells #[.int .i64 0] n, by rw [List.length_replicate], hb, h, by rw [List.length_replicate]; exact Nat.le_refl _, by unfold maxLen; omega, by rw [size_madeCells, Nat.mul_one], ?_⟩⟩ (fun k hk => by simpa [Value.ownBlock] using hk.symm)
 rw [hl, Nat.mul_one]
 simp [encs]
theorem fresh_of {n br bc R C : Nat} {w wc : World} {ob : Obj} {p1 p2 p3 p4 : Prop} (h : p1 ∧ p2 ∧ p3 ∧ p4 ∧ Below (w.alloc ob).heap.size (w.alloc ob) wc)
 (hbr : wc.heap[br]? = some (.cells #[.slice (some ⟨R, 0, none⟩) n n] 28 (0, 0))) (hbc : wc.heap[bc]? = some (.cells #[.slice (some ⟨C, 0, none⟩) n n] 28 (0, 0)))
 (hR : wc.heap[R]? = some (.cells (madeCells #[.int .i64 0] n) 3 (0, 0))) (hC : wc.heap[C]? = some (.cells (madeCells #[.int .i64 0] n) 3 (0, 0)))
 (lt : w.heap.size + 1 ≤ br ∧ w.heap.size + 1 ≤ bc ∧ w.heap.size + 1 ≤ R ∧ w.heap.size + 1 ≤ C) (ne : br ≠ bc ∧ br ≠ R ∧ br ≠ C ∧ bc ≠ R ∧ bc ≠ C ∧ R ≠ C) : Fresh n (w.alloc ob) wc br bc R C :=
 ⟨hbr, hbc, hR, hC, by simpa using lt, ne, h.2.2.2.2⟩
theorem heap4 (w : World) (ob o1 o2 o3 o4 : Obj) :
 (((((w.alloc ob).alloc o1).alloc o2).alloc o3).alloc o4).drew.heap[w.heap.size + 1]? = some o1 ∧ (((((w.alloc ob).alloc o1).alloc o2).alloc o3).alloc o4).drew.heap[w.heap.size + 1 + 1]? = some o2 ∧
 (((((w.alloc ob).alloc o1).alloc o2).alloc o3).alloc o4).drew.heap[w.heap.size + 1 + 1 + 1]? = some o3 ∧ (((((w.alloc ob).alloc o1).alloc o2).alloc o3).alloc o4).drew.heap[w.heap.size + 1 + 1 + 1 + 1]? = some o4 ∧
 Below (w.alloc ob).heap.size (w.alloc ob) (((((w.alloc ob).alloc o1).alloc o2).alloc o3).alloc o4).drew := by
 have e1 : (w.alloc ob).heap.size = w.heap.size + 1 := by simp
 have e2 : ((w.alloc ob).alloc o1).heap.size = w.heap.size + 1 + 1 := by simp
 have e3 : (((w.alloc ob).alloc o1).alloc o2).heap.size = w.heap.size + 1 + 1 + 1 := by simp
 have e4 : ((((w.alloc ob).alloc o1).alloc o2).alloc o3).heap.size = w.heap.size + 1 + 1 + 1 + 1 := by simp
 refine ⟨?_, ?_, ?_, ?_, ?_⟩
 · rw [← e1]; exact blk_alloc (blk_alloc (blk_alloc (blk_new _ o1) _) _) _
 · rw [← e2]; exact blk_alloc (blk_alloc (blk_new _ o2) _) _
 · rw [← e3]; exact blk_alloc (blk_new _ o3) _
 · rw [← e4]; exact blk_new _ o4
 · exact below_drew (below_alloc (below_alloc (below_alloc (below_alloc (Below.refl _ _) _) _) _) _)

def veils_all.f {α : Type} (n : Nat) (found : List (List Int) → α → Option α) (a : α) : Option α :=
 (onF n found 100 0 ⟨List.replicate n (List.replicate n 0), List.replicate n 0, List.replicate n 0⟩ a).map fun z => z.2

set_option maxHeartbeats 1000000 in
set_option maxRecDepth 100000 in
theorem veils_all.calls {α : Type} {lo0 : Nat} {n : Nat} {fid : FuncId} {fn : Func} {caps : Array Value} {found : List (List Int) → α → Option α} {Acc : Nat → World → α → Prop} (hn1 : 1 ≤ n) (hn5 : n ≤ 5)
 (hfn : Try.prog.funcs[fid]? = some fn) (hnm : (fn.name == "runtime.NumGoroutine") = false) (hbd : fn.body.isSome = true) (a b : α) (w : World) (F : Aside0 (∀ hi, w.heap.size ≤ hi → Found lo0 w.heap.size hi fid caps found (Acc hi))) (h01 : lo0 ≤ w.heap.size) (ha : Aside0 (∀ hi, w.heap.size ≤ hi → Acc hi w a))
 (hb : Aside0 (veils_all.f n found a = some b)) :
 Calls Try.prog 41 #[.int .i64 n, .func (.func fid) #[] caps] w fun e W' => e = .returned (.tuple #[]) ∧ (∃ hi, w.heap.size ≤ hi ∧ Acc hi W' b) ∧ Same (fun k => k < lo0) w W' := by
 have hmf : ∀ (fn : Fn) (first cap : Array Value) (w : World), (Instr.makeFunc fn first cap).run Try.prog w = .ok (.func fn first cap) w := fun _ _ _ _ => rfl
 have hmk := print_make (P := Try.prog) 28 3 .i64 8 Try.underlying28 info3 (by decide) n (by omega)
 have n1 : 1 ≤ (n : Int) := by omega
 have n2 : (n : Int) ≤ 5 := by omega
 have M0 := Aside0.mk (made_zero n hn1 hn5)
 have b1 : ((w.alloc (.cells #[.int .i64 n] 3)).alloc (.cells #[.func (.func fid) #[] caps] 50)).heap[w.heap.size]? = some (.cells #[.int .i64 n] 3 (0, 0)) := blk_alloc (blk_new _ _) _
 have b2 : ((w.alloc (.cells #[.int .i64 n] 3)).alloc (.cells #[.func (.func fid) #[] caps] 50)).heap[w.heap.size + 1]? = some (.cells #[.func (.func fid) #[] caps] 50 (0, 0)) := by simpa using blk_new (w.alloc (.cells #[.int .i64 n] 3)) (.cells #[.func (.func fid) #[] caps] 50)
 have c1 := (blk_cell b1 0).trans (rfl : _ = some (Value.int .i64 (n : Int)))
 have B1 := Aside0.mk b1
 have B2 := Aside0.mk b2
 clear b1 b2
 go_enter Try.func41, Try.ntmps41
 go_wp2_with (go_at_call 59; refine (veils_made_int.calls (fun _ _ => some 0) Try.func60 (by kernel_rfl) rfl #[] 1000 (n : Int) (List.replicate n (List.replicate n 0)) _ ⟨fun i j x W hB hx => by obtain rfl := Option.some.inj hx; exact (veils_all1.calls i j W).mono fun e w' hh => by obtain ⟨rfl, rfl⟩ := hh; exact ⟨rfl, Below.refl _ _⟩⟩ M0.out).mono ?_; rintro e w1 ⟨v, rfl, ho, hbw⟩; obtain ⟨g, cap, ev, hbg, hgl, hcells⟩ := Kd.S_form ho (by simp; omega); rw [List.length_replicate] at ev; subst ev; have HO := Aside0.mk ho; have HB := Aside0.mk hbw; have HG := Aside0.mk (And.intro hbg hgl); have cn1 := (blk_cell (blk_below B1.out hbw) 0).trans (rfl : _ = some (Value.int .i64 (n : Int))); have hz : w.heap.size + 1 < w1.heap.size := (by have := hbw.size; simp at this; omega); have hz2 : w.heap.size < w1.heap.size := (by omega); clear ho hbw hbg hgl hcells)
 have z1 : w.heap.size < w1.heap.size + 1 := by omega
 have z2 : w.heap.size < w1.heap.size + 1 + 1 := by omega
 have z3 : w.heap.size < w1.heap.size + 1 + 1 + 1 := by omega
 have z4 : w.heap.size < w1.heap.size + 1 + 1 + 1 + 1 := by omega
 have y2 : w.heap.size < w1.heap.size + 2 := by omega
 have y3 : w.heap.size < w1.heap.size + 3 := by omega
 have y4 : w.heap.size < w1.heap.size + 4 := by omega
 go_cut [5, 6] (fun v5 v6 wc => ∃ br bc R C : Nat, v5 = .pointer (some ⟨br, 0, none⟩) ∧ v6 = .pointer (some ⟨bc, 0, none⟩) ∧ Aside0 (Fresh n (w1.alloc (.cells #[.slice (some ⟨g, 0, none⟩) n cap] 49)) wc br bc R C))
 case first =>
   go_region
   all_goals (go_wp2; go_meet; case rel => exact ⟨_, _, _, _, rfl, rfl, ⟨fresh_of (heap4 _ _ _ _ _ _) (by first | exact (heap4 _ _ _ _ _ _).1 | exact (heap4 _ _ _ _ _ _).2.1 | exact (heap4 _ _ _ _ _ _).2.2.1 | exact (heap4 _ _ _ _ _ _).2.2.2.1) (by first | exact (heap4 _ _ _ _ _ _).1 | exact (heap4 _ _ _ _ _ _).2.1 | exact (heap4 _ _ _ _ _ _).2.2.1 | exact (heap4 _ _ _ _ _ _).2.2.2.1) (by first | exact (heap4 _ _ _ _ _ _).1 | exact (heap4 _ _ _ _ _ _).2.1 | exact (heap4 _ _ _ _ _ _).2.2.1 | exact (heap4 _ _ _ _ _ _).2.2.2.1) (by first | exact (heap4 _ _ _ _ _ _).1 | exact (heap4 _ _ _ _ _ _).2.1 | exact (heap4 _ _ _ _ _ _).2.2.1 | exact (heap4 _ _ _ _ _ _).2.2.2.1) (by omega) (by omega)⟩⟩)
 case rest =>
   obtain ⟨br, bc, R, C, rfl, rfl, FR⟩ := hcut
   have hV := Aside0.mk (And.intro hz (And.intro hz2 HG.out))
   clear z1 z2 z3 z4 y2 y3 y4 hz hz2 cn1 c1 hmk
   have bnc : wc.heap[w.heap.size]? = some (.cells #[.int .i64 n] 3 (0, 0)) := blk_below (blk_alloc (blk_below B1.out HB.out) _) FR.out.below
   have bfc : wc.heap[w.heap.size + 1]? = some (.cells #[.func (.func fid) #[] caps] 50 (0, 0)) := blk_below (blk_alloc (blk_below B2.out HB.out) _) FR.out.below
   have bvc : wc.heap[w1.heap.size]? = some (.cells #[.slice (some ⟨g, 0, none⟩) n cap] 49 (0, 0)) := blk_below (blk_new w1 _) FR.out.below
   have tabc : Kd.S (Kd.slice 3 (Kd.int .i64)) 28 wc (w.heap.size + 2) (fun k => w.heap.size + 2 ≤ k ∧ k < w1.heap.size) (.slice (some ⟨g, 0, none⟩) n cap) (List.replicate n (List.replicate n 0)) := by
    have z := Kd.S_mono (Kd.S_bound HO.out) (ok' := fun k => w.heap.size + 2 ≤ k ∧ k < w1.heap.size) (fun k hk => ⟨by have := hk.2.1; simp at this; omega, hk.2.2.1⟩)
    have z2 := Kd.S_below (Kd.S_alloc z _) FR.out.below
    have z3 := Kd.S_lower z2 (base' := w.heap.size + 2) (by simp)
    exact z3
   have BNC := Aside0.mk bnc
   have BFC := Aside0.mk bfc
   have BVC := Aside0.mk bvc
   have TABC := Aside0.mk tabc
   have SZ := Aside0.mk FR.out.below.size
   clear bnc bfc bvc tabc
   obtain ⟨z, hz0, hzb⟩ := Option.map_eq_some_iff.mp hb.out
   have HZ := Aside0.mk hz0
   subst hzb
   clear hz0 hb M0 B1 B2
   have HSAME : Aside0 (Below w.heap.size w wc) := ⟨by
    have q1 : Below w.heap.size w ((w.alloc (.cells #[.int .i64 n] 3)).alloc (.cells #[.func (.func fid) #[] caps] 50)) := below_alloc (below_alloc (Below.refl _ _) _) _
    exact below_step (below_alloc (below_step q1 HB.out) _) FR.out.below⟩
   have hcall : Aside0 (Calls Try.prog 61 #[.int .i64 0, .pointer (some ⟨w.heap.size, 0, none⟩), .pointer (some ⟨bc, 0, none⟩), .pointer (some ⟨w.heap.size + 1, 0, none⟩), .pointer (some ⟨w1.heap.size, 0, none⟩), .pointer (some ⟨br, 0, none⟩), .pointer (some ⟨wc.heap.size, 0, none⟩)]
    (wc.alloc (.cells #[.func (.func 61) #[] #[.pointer (some ⟨w.heap.size, 0, none⟩), .pointer (some ⟨bc, 0, none⟩), .pointer (some ⟨w.heap.size + 1, 0, none⟩), .pointer (some ⟨w1.heap.size, 0, none⟩), .pointer (some ⟨br, 0, none⟩), .pointer (some ⟨wc.heap.size, 0, none⟩)]] 65))
    fun e W' => e = .returned (.tuple #[]) ∧ Acc (wc.heap.size + 1) W' z.2 ∧ Same (fun k => k < lo0) (wc.alloc (.cells #[.func (.func 61) #[] #[.pointer (some ⟨w.heap.size, 0, none⟩), .pointer (some ⟨bc, 0, none⟩), .pointer (some ⟨w.heap.size + 1, 0, none⟩), .pointer (some ⟨w1.heap.size, 0, none⟩), .pointer (some ⟨br, 0, none⟩), .pointer (some ⟨wc.heap.size, 0, none⟩)]] 65)) W') := ⟨by
    obtain ⟨v1, v2, v3, v4⟩ := hV.out
    obtain ⟨l1, l2, l3, l4⟩ := FR.out.lt
    obtain ⟨e1, e2, e3, e4, e5, e6⟩ := FR.out.ne
    have u1 := blk_lt FR.out.hbr
    have u2 := blk_lt FR.out.hbc
    have u3 := blk_lt FR.out.hR
    have u4 := blk_lt FR.out.hC
    have sz := SZ.out
    simp at l1 l2 l3 l4 v3 sz
    have st : St w.heap.size { bn := w.heap.size, br := br, bc := bc, bf := w.heap.size + 1, bv := w1.heap.size, bo := wc.heap.size, R := R, C := C, V := g, cv := cap, fv := .func (.func fid) #[] caps, okV := fun k => w.heap.size + 2 ≤ k ∧ k < w1.heap.size } n
     (wc.alloc (.cells #[.func (.func 61) #[] #[.pointer (some ⟨w.heap.size, 0, none⟩), .pointer (some ⟨bc, 0, none⟩), .pointer (some ⟨w.heap.size + 1, 0, none⟩), .pointer (some ⟨w1.heap.size, 0, none⟩), .pointer (some ⟨br, 0, none⟩), .pointer (some ⟨wc.heap.size, 0, none⟩)]] 65))
     ⟨List.replicate n (List.replicate n 0), List.replicate n 0, List.replicate n 0⟩ :=
     ⟨blk_alloc BNC.out _, blk_alloc FR.out.hbr _, blk_alloc FR.out.hbc _, blk_alloc BFC.out _, blk_alloc BVC.out _, blk_new _ _,
      Kd.R_alloc (made_row FR.out.hR (by omega) (by omega)) _, Kd.R_alloc (made_row FR.out.hC (by omega) (by omega)) _, Kd.S_alloc (Kd.S_lower TABC.out (by omega)) _,
      fun i hi => by simp [List.getD_eq_getElem?_getD, List.getElem?_replicate, hi]⟩
    have z1 := on_calls (hi := wc.heap.size + 1) (by omega) ⟨by constructor <;> dsimp only <;> omega, by constructor <;> dsimp only <;> omega, fun k hk => by dsimp only at hk ⊢; omega, e6, by dsimp only; omega, by dsimp only; omega, by dsimp only; omega⟩ hfn hnm hbd rfl (F.out _ (by omega)) h01 100 0 _ z.1 a z.2 _ (Nat.zero_le _) st (by simp) ((F.out _ (by omega)).stays _ _ _ (ha.out _ (by omega)) (Same.of_below (below_alloc HSAME.out _))) HZ.out
    exact z1.mono fun e W' hh => ⟨hh.1, hh.2.2.1, hh.2.2.2⟩⟩
   go_wp2_with (go_at_call 61; refine hcall.out.mono ?_; rintro e w4 ⟨rfl, C4, F4⟩)
   first | go_end0 | ((try simp only [Exit.inBlock, Exit.then]); refine bodyPost_ret (results_none rfl _ _ _) rfl ?_)
   exact ⟨rfl, ⟨_, by have := HSAME.out.size; omega, C4⟩, (Same.of_below (below_alloc HSAME.out _)).trans F4⟩
end Go.Proofs.Ytdinepghommchaa.V

-- Written by a program of this session over the kit's printer: wip/gp.py.
namespace Go.Proofs.Ytdinepghommchaa.V
open Go.RowKit Go.Proofs.YtdinepghommchaaW.PrintWords Go.Proofs.YtdinepghommchaaW.PrintLast Go.Proofs.YtdinepghommchaaW.PrintMore
attribute [local go_sem] max2_int min2_int max_two min_two max_three min_three max_four min_four   -- for this text's walks alone
set_option linter.unusedVariables false
set_option linter.unusedSimpArgs false

/-! ### slices_Clone_int_int: function 63 -/
def slices_Clone_int_int.f (l0 : List Int) : Option (List Int) := (some (([] : List Int) : List Int)).bind fun y103 => (if y103.length + l0.length < 17592186044416 then (some (y103 ++ l0)) else (none))
set_option maxHeartbeats 8000000 in
set_option maxRecDepth 100000 in
theorem slices_Clone_int_int.calls (A0 : Option Addr) (c0 : Nat) (l0 : List Int) (r : List Int) (w : World) (hr0 : Kd.C (Kd.int .i64) w A0 l0.length l0) (hc0 : l0.length ≤ c0) (h : slices_Clone_int_int.f l0 = some r) :
 Calls Try.prog 63 #[.slice A0 l0.length c0] w fun e w' => ∃ v0_ : Value, e = .returned (v0_) ∧ Kd.R (Kd.int .i64) 3 w' w.heap.size (fun _ => True) v0_ r ∧ Below w.heap.size w w' := by
 have HR0 := Aside0.mk hr0
 have HC0 := Aside0.mk hc0
 clear hr0 hc0
 have hq : ∀ (w : World) (a : Option Addr) (n c n' c' : Nat), (binOp .eql 28 (.slice a n c) (.slice none n' c')).run Try.prog w = .ok (.bool a.isNone) w := fun w a n c n' c' => Lib.run_eql_slice_nil w _ _ a n c n' c' Try.underlying28
 cases A0 with
 | none =>
  have hl : l0 = [] := by
   rcases Nat.eq_zero_or_pos l0.length with h0 | h0
   · exact List.eq_nil_of_length_eq_zero h0
   · obtain ⟨ad, e, _⟩ := HR0.out.2.2 h0
     cases e
  subst hl
  have H : (some (([] : List Int) ++ [])) = some r := h
  obtain rfl := Option.some.inj H
  clear h H
  go_enter Try.func63, Try.ntmps63
  go_wp2
  go_ret
  exact ⟨_, rfl, Kd.R_nil _ _ _ _ _, Below.refl _ _⟩
 | some ad0 =>
  have HB := Aside0.mk (Below.refl w.heap.size w)
  have H : ((some (([] : List Int) : List Int)).bind fun y103 => (if y103.length + l0.length < 17592186044416 then (some (y103 ++ l0)) else (none))) = some r := h
  clear h
  obtain ⟨y103, hy103⟩ : ∃ y_ : List Int, y_ = (([] : List Int)) := ⟨_, rfl⟩
  replace H : (if y103.length + l0.length < 17592186044416 then (some (y103 ++ l0)) else (none)) = some r := by first | (rw [hy103]; with_reducible exact H) | (have H2_ := (Option.bind_some _ _).symm.trans H; rw [hy103]; with_reducible exact H2_) | (have H2_ := (Option.bind_some _ _).symm.trans H; with_reducible exact H2_) | with_reducible exact H | (rw [hy103]; exact H) | exact H
  have Ny103 := Aside0.mk hy103
  clear hy103
  by_cases c2 : y103.length + l0.length < 17592186044416
  · rw [if_pos c2] at H
    have LMc2 := Aside0.mk c2
    clear c2
    obtain ⟨y106, hy106⟩ : ∃ y_ : List Int, y_ = (y103 ++ l0) := ⟨_, rfl⟩
    replace H : (some y106) = some r := by first | (rw [hy106]; with_reducible exact H) | (have H2_ := (Option.bind_some _ _).symm.trans H; rw [hy106]; with_reducible exact H2_) | (have H2_ := (Option.bind_some _ _).symm.trans H; with_reducible exact H2_) | with_reducible exact H | (rw [hy106]; exact H) | exact H
    have Ny106 := Aside0.mk hy106
    clear hy106
    obtain rfl := Option.some.inj H
    go_enter Try.func63, Try.ntmps63
    go_wp2_with (first | ((with_reducible refine gate_dst (N := 5) rfl ?_); refine Kd.R_lit (Kd.int .i64) _ 3 ?hg (N := 5) ?hd (xs := ([] : List Int)) (inner := []) (ok := fun _ => True) (okp := fun _ => True) ?hr ?hp (fun _ hk => hk) trivial (Below.refl _ _) (Nat.le_refl _) (by simp) ?_; (case hd => rfl); (case hg => rfl); (case hr => first | (go_simp; done) | (go_simp; rfl)); (case hp => exact (Reps.none _ _)); intro v104 w3 ho4 hb hg_ hnew_; clear hg_ hnew_; (first | rw [← Ny103.out] at ho4 | (simp only [Int.reduceToNat] at ho4; rw [← Ny103.out] at ho4)); have n0_ := Aside0.mk (Kd.R_lower ho4 (below_size (bel_))); have n1_ := Aside0.mk (below_step (bel_) hb); clear HB; have HO105 := n0_; have HB := n1_; clear n0_ n1_; clear hb ho4) | ((with_reducible refine gate_builtin (b := .append) (xs := #[.tmp 5, .tmp 6]) rfl ?_); at_builtin; refine Kd.R_append_rows (Kd.int .i64) (w0 := w) w.heap.size rfl (.tmp 5) (.tmp 6) 28 3 (.int .i64 0) 8 rfl Try.underlying28 info3 rfl (by decide) (by omega) v104 y103 l0 _ _ _ (fun _ => True) (fun _ => False) rfl rfl ?aO ?aR (fun _ _ h => h) (fun _ h => h.elim) ?aF ?aB ?aS ?aL ?_; (case aR => repeat (first | exact (Kd.C_below HR0.out HB.out) | (with_reducible refine Kd.C_alloc ?_ _) | (with_reducible refine Kd.C_drewN ?_ _) | (with_reducible refine Kd.C_drew ?_))); (case aB => exact (bel_)); (case aF => exact (fun _ _ => trivial)); (case aO => exact (nR_ HO105.out)); (case aS => exact (below_size (bel_))); (case aL => have := LMc2.out; omega); intro v107 w5 ho hb hg hat; rw [← Ny106.out] at ho; have n0_ := Aside0.mk (hb); have n1_ := Aside0.mk (ho); clear HB; clear HO105; have HB := n0_; have HO108 := n1_; clear n0_ n1_; clear ho hb hg hat))
    go_ret
    exact ⟨_, er_, by (with_reducible repeat (first | apply Kd.R_alloc | apply Kd.R_drewN | apply Kd.R_drew)); exact HO108.out, bel_⟩
  · rw [if_neg c2] at H
    exact absurd H (by simp)

end Go.Proofs.Ytdinepghommchaa.V

-- Written by a program of this session over the kit's printer: wip/gp.py.
namespace Go.Proofs.Ytdinepghommchaa.V
open Go.RowKit Go.Proofs.YtdinepghommchaaW.PrintWords Go.Proofs.YtdinepghommchaaW.PrintLast Go.Proofs.YtdinepghommchaaW.PrintMore
attribute [local go_sem] max2_int min2_int max_two min_two max_three min_three max_four min_four   -- for this text's walks alone
set_option linter.unusedVariables false
set_option linter.unusedSimpArgs false

/-! ### veils_copied: function 43 -/
def veils_copied.l0 : Nat → List (List Int) → List (List Int) → Int → Int → Option ((List (List Int)))
 | 0, _, _, _, _ => none
 | k + 1, x3, x6, x7, x8 => if x8 < x7 then (if 0 ≤ x8 then (if x8 < (x6.length : Int) then ((slices_Clone_int_int.f (rd_L1 x6 x8)).bind fun t110 => (if x3.length < 5864062014805 then (veils_copied.l0 k (x3 ++ [t110]) x6 x7 (wrap64 (x8 + 1))) else (none))) else (none)) else (none)) else (some x3)
def veils_copied.f (k : Nat) (l0 : List (List Int)) : Option ((List (List Int))) := veils_copied.l0 k ([] : List (List Int)) l0 (l0.length : Int) 0
set_option maxHeartbeats 8000000 in
set_option maxRecDepth 100000 in
theorem veils_copied.calls (k : Nat) (A0 : Option Addr) (c0 : Nat) (l0 : List (List Int)) (r : List (List Int)) (w : World) (hr0 : Kd.C (Kd.slice 3 (Kd.int .i64)) w A0 l0.length l0) (hc0 : l0.length ≤ c0) (h : veils_copied.f k l0 = some r) :
 Calls Try.prog 43 #[.slice A0 l0.length c0] w fun e w' => ∃ v0_ : Value, e = .returned (v0_) ∧ Kd.S (Kd.slice 3 (Kd.int .i64)) 28 w' w.heap.size (fun _ => True) v0_ r ∧ Below w.heap.size w w' := by
 have HR0 := Aside0.mk hr0
 have HC0 := Aside0.mk hc0
 clear hr0 hc0
 have HB := Aside0.mk (Below.refl w.heap.size w)
 have H : (veils_copied.l0 k ([] : List (List Int)) l0 (l0.length : Int) 0) = some r := h
 clear h
 have H' := Aside0.mk H
 clear H
 go_enter Try.func43, Try.ntmps43
 go_wp2
 go_loopg [3, 8] k (fun kq v3 v8 w' => ∃ (x3_1 : List (List Int)) (x8_1 : Int), v8 = .int .i64 x8_1 ∧ Aside0 (veils_copied.l0 kq x3_1 l0 (l0.length : Int) x8_1 = some r) ∧ Aside0 (kq ≤ k) ∧ Aside0 (Kd.S (Kd.slice 3 (Kd.int .i64)) 28 w' w.heap.size (fun _ => True) v3 x3_1) ∧ Aside0 (Below w.heap.size w w'))
 case atStart => exact ⟨(([] : List (List Int))), (0), rf_, H', ⟨Nat.le_refl _⟩, ⟨by first | exact Kd.S_nil _ _ _ _ _ | exact Kd.N_nil _ _ _ _ _ | exact Kd.V_nil _ _ _ _ _ | exact Kd.Q_nil _ _ _ _ _ | exact Kd.R_nil _ _ _ _ _⟩, ⟨bel_⟩⟩
 case round =>
  clear H'
  obtain ⟨x3_1, x8_1, rfl, HA, HK1, HO_3, HB⟩ := hrel
  cases gk with
  | zero => exact absurd HA.out (by simp [veils_copied.l0])
  | succ k1 =>
   have H := HA.out
   clear HA
   simp only [veils_copied.l0] at H
   by_cases c2 : x8_1 < (l0.length : Int)
   · rw [if_pos c2] at H
     have c2b0 : decide (x8_1 < (l0.length : Int)) = true := decide_eq_true c2
     clear c2
     by_cases c3 : 0 ≤ x8_1
     · rw [if_pos c3] at H
       have c3b0 : decide (0 ≤ x8_1) = true := decide_eq_true c3
       clear c3
       by_cases c4 : x8_1 < (l0.length : Int)
       · rw [if_pos c4] at H
         have c4b0 : decide (x8_1 < (l0.length : Int)) = true := decide_eq_true c4
         clear c4
         replace H := Option.bind_eq_some_iff.mp H
         obtain ⟨t110, A50, H⟩ := H
         replace H : (if x3_1.length < 5864062014805 then (veils_copied.l0 k1 (x3_1 ++ [t110]) l0 (l0.length : Int) (wrap64 (x8_1 + 1))) else (none)) = some r := H
         have A5 := Aside0.mk A50
         clear A50
         by_cases c6 : x3_1.length < 5864062014805
         · rw [if_pos c6] at H
           have LMc6 := Aside0.mk c6
           clear c6
           obtain ⟨y113, hy113⟩ : ∃ y_ : List (List Int), y_ = (x3_1 ++ [t110]) := ⟨_, rfl⟩
           replace H : (veils_copied.l0 k1 y113 l0 (l0.length : Int) (wrap64 (x8_1 + 1))) = some r := by first | (rw [hy113]; with_reducible exact H) | (have H2_ := (Option.bind_some _ _).symm.trans H; rw [hy113]; with_reducible exact H2_) | (have H2_ := (Option.bind_some _ _).symm.trans H; with_reducible exact H2_) | with_reducible exact H | (rw [hy113]; exact H) | exact H
           have Ny113 := Aside0.mk hy113
           clear hy113
           have H' := Aside0.mk H
           clear H
           obtain ⟨ad109, A109_0, c109_0, e109, hx109_0, HC109_0, HR109_0, p109, q109⟩ := al_ HR0.out x8_1
           cases e109
           replace hx109_0 := (HB.out.cell (World.block_lt_of_cell? w _ hx109_0)).trans hx109_0
           go_wp2_with (first | ((with_reducible refine gate_callee (f := 63) rfl ?_); refine goesL_ (some 14) rfl rfl Try.func63 (by kernel_rfl) rfl #[.slice A109_0 (rd_L1 l0 x8_1).length c109_0] rfl ar_ ?_; (with_reducible refine (slices_Clone_int_int.calls _ _ (rd_L1 l0 x8_1) t110 _ ?side1 ?side2 A5.out).mono ?_); (case side1 => repeat (first | exact (Kd.C_below HR109_0.out HB.out) | (with_reducible refine Kd.C_alloc ?_ _) | (with_reducible refine Kd.C_drewN ?_ _) | (with_reducible refine Kd.C_drew ?_))); (case side2 => exact HC109_0.out); rintro e w7 ⟨v111, rfl, ho0, hb⟩; refine ⟨_, rfl, ?_⟩; have n0_ := Aside0.mk (Kd.S_elder' (nS_ HO_3.out) (Kd.R_base ho0) hb); have n1_ := Aside0.mk (Kd.R_lower ho0 (below_size (bel_))); have n2_ := Aside0.mk (below_step (bel_) hb); clear HO_3; clear HB; have HO_3 := n0_; have HO112 := n1_; have HB := n2_; clear n0_ n1_ n2_; (try clear hb); (try clear hb2); (try clear hk); (try clear hi); (try clear ho0); obtain ⟨Ao9, co9, eo9⟩ := Kd.R_slice HO112.out; subst eo9) | ((with_reducible refine gate_builtin (b := .append) (xs := #[.tmp 12, .tmp 15]) rfl ?_); at_builtin; refine Kd.S_append (Kd.slice 3 (Kd.int .i64)) (w0 := w) w.heap.size rfl (.tmp 12) (.tmp 15) 27 28 (.slice none 0 0) 24 rfl Try.underlying27 info28 rfl (by decide) (by omega) u3 x3_1 t110 [.slice Ao9 t110.length co9] (fun _ => True) (fun k_ => some k_ = (.slice Ao9 t110.length co9 : Value).ownBlock) rfl rfl ?aP (fun k_ hk_ => ((Kd.R_mono (ok' := fun k_ => ((fun _ => True)) k_ ∧ some k_ ≠ (u3 : Value).ownBlock) (Kd.R_apart' (HO112.out) (Kd.S_typed HO_3.out) (by decide)) (fun k_ hk => ⟨trivial, hk.2⟩))).1 k_ hk_.symm) ?aF ?aO ?aB ?aS ?aL ?_; (case aP => exact Kd.M_row (Kd.R_mono (Kd.R_tight rfl (Kd.R_mono (ok' := fun k_ => ((fun _ => True)) k_ ∧ some k_ ≠ (u3 : Value).ownBlock) (Kd.R_apart' (HO112.out) (Kd.S_typed HO_3.out) (by decide)) (fun k_ hk => ⟨trivial, hk.2⟩))) (fun _ h_ => h_))); (case aB => exact (bel_)); (case aF => exact (fun _ _ => trivial)); (case aO => exact (by (with_reducible repeat (first | apply Kd.S_alloc | apply Kd.S_drewN | apply Kd.S_drew)); exact Kd.S_mono HO_3.out (fun k_ hk => ⟨trivial, fun e_ => hk.2 e_⟩))); (case aS => exact (below_size (bel_))); (case aL => have := LMc6.out; omega); intro v114 w8 ho hb hg hat; rw [← Ny113.out] at ho; have n0_ := Aside0.mk (hb); have n1_ := Aside0.mk (ho); clear HB; clear HO_3; clear HO112; have HB := n0_; have HO115 := n1_; clear n0_ n1_; clear ho hb hg hat))
           go_roundg k1
           case measure => have := HK1.out; omega
           case rel => exact ⟨(y113), (wrap64 (x8_1 + 1)), rf_, H', ⟨by have := HK1.out; omega⟩, ⟨nS_ HO115.out⟩, ⟨bel_⟩⟩
         · rw [if_neg c6] at H
           exact absurd H (by simp)
       · rw [if_neg c4] at H
         exact absurd H (by simp)
     · rw [if_neg c3] at H
       exact absurd H (by simp)
   · rw [if_neg c2] at H
     have c2b0 : decide (x8_1 < (l0.length : Int)) = false := decide_eq_false c2
     clear c2
     obtain rfl := Option.some.inj H
     go_wp2
     go_ret
     exact ⟨_, er_, by (with_reducible repeat (first | apply Kd.S_alloc | apply Kd.S_drewN | apply Kd.S_drew)); exact HO_3.out, bel_⟩

end Go.Proofs.Ytdinepghommchaa.V

/- The walk of All's closure: a copy of the table is appended to what has been found. -/
namespace Go.Proofs.Ytdinepghommchaa.V
open Go.RowKit Go.Proofs.YtdinepghommchaaW.PrintWords Go.Proofs.YtdinepghommchaaW.PrintLast Go.Proofs.YtdinepghommchaaW.PrintMore
set_option linter.unusedVariables false
set_option linter.unusedSimpArgs false

def veils_All1.f (t : List (List Int)) (out : List (List (List Int))) : Option (List (List (List Int))) := (veils_copied.f 1000 t).bind fun u => if out.length < 5864062014805 then some (out ++ [u]) else none

/-- What has been found lies behind a boxed variable, in new memory. -/
def AccAll (b hi : Nat) (W : World) (out : List (List (List Int))) : Prop :=
 ∃ v, W.heap[b]? = some (.cells #[v] 22 (0, 0)) ∧ Kd.S (Kd.slice 28 (Kd.slice 3 (Kd.int .i64))) 27 W hi (fun k => hi ≤ k) v out
theorem AccAll.same {b lo hi : Nat} {W W' : World} {out : List (List (List Int))} (h : AccAll b hi W out) (hb : b < lo) (hs : Same (fun k => ¬ (lo ≤ k ∧ k < hi)) W W') : AccAll b hi W' out := by
 obtain ⟨v, h1, h2⟩ := h
 exact ⟨v, hs.blk h1 (by omega), Kd.S_step h2 (fun k hk hl => hs.block k (by omega) hl)⟩

set_option maxHeartbeats 4000000 in
set_option maxRecDepth 100000 in
theorem veils_All1.calls {lo0 lo hi b : Nat} (hb0 : lo0 ≤ b) (hb1 : b < lo) (hle : lo ≤ hi) (W : World) (A : Option Addr) (c : Nat) (t : List (List Int)) (out out' : List (List (List Int))) (hw : hi ≤ W.heap.size) (hr : Kd.C (Kd.slice 3 (Kd.int .i64)) W A t.length t) (hc : t.length ≤ c)
 (ha : AccAll b hi W out) (h : veils_All1.f t out = some out') :
 Calls Try.prog 42 #[.slice A t.length c, .pointer (some ⟨b, 0, none⟩)] W fun e W' => e = .returned (.tuple #[]) ∧ AccAll b hi W' out' ∧ Same (fun k => k < lo0 ∨ (lo ≤ k ∧ k < hi)) W W' := by
 obtain ⟨vO, hbx, ho⟩ := ha
 obtain ⟨u, hu, h⟩ := Option.bind_eq_some_iff.mp h
 by_cases hlim : out.length < 5864062014805
 · rw [if_pos hlim] at h
   obtain rfl := Option.some.inj h
   have hcell : W.drew.cell? ⟨b, 0, none⟩ = some vO := (blk_cell (blk_drew hbx) 0).trans rfl
   have HR := Aside0.mk (Kd.C_drew hr)
   have HC := Aside0.mk hc
   have HU := Aside0.mk hu
   have HX := Aside0.mk (blk_drew hbx)
   have HO := Aside0.mk (Kd.S_drew ho)
   have HW := Aside0.mk (show hi ≤ W.drew.heap.size from hw)
   have HL := Aside0.mk hlim
   have HS := Aside0.mk (show Same (fun k => k < lo0 ∨ (lo ≤ k ∧ k < hi)) W W.drew from Same.drewN W 1)
   clear hr hc hu h hbx ho hw hlim
   go_enter Try.func42, Try.ntmps42
   refine start_ (n := 6) (S := fun w' => w'.cell? ⟨b, 0, none⟩ = some vO) (ds := [5]) #[false, false, false, false, false, false] (by kernel_rfl) rfl rfl (hcell) (fun hHeld => ?_)
   generalize W.drew = w1 at HR HX HO HW HS hcell hHeld ⊢
   refine take_ (i := 0) (N := some 3) (v := ?_) (a' := ?_) #[true, false, false, false, false, false] rfl rfl (by kernel_rfl) (fun _ _ _ h => h) (Or.inl ⟨by rfl, ?_⟩) hHeld ?_ ?_
   rotate_left
   · intro w' s0
     go_simp
     with_reducible rfl
   rotate_left
   · simp only [Act.put, List.setIfInBounds_toArray, List.set_cons_zero, List.set_cons_succ]
     rfl
   refine pure_ (i := 1) (N := some 4) (v := ?_) (a' := ?_) #[true, true, false, false, false, false] rfl rfl (by kernel_rfl) (fun _ _ _ h => h) (Or.inl ⟨by rfl, ?_⟩) ?_ ?_
   rotate_left
   · intro w'
     go_simp
     with_reducible rfl
   rotate_left
   · simp only [Act.put, List.setIfInBounds_toArray, List.set_cons_zero, List.set_cons_succ]
     rfl
   refine one_ (i := 2) (N := some 5) #[true, true, true, false, false, false] rfl rfl (by kernel_rfl) (by decide) (fun K hK => ?_)
   refine goes_ Try.func43 (by kernel_rfl) rfl #[.slice A t.length c] (by rfl) rfl rfl (by (try simp only [List.map_toArray, List.map_cons, List.map_nil]); first | done | rfl) ?_
   refine (veils_copied.calls 1000 A c t u w1 HR.out HC.out HU.out).mono ?_
   rintro e w2 ⟨v2, rfl, ho2, hb2⟩
   refine ⟨_, rfl, ?_⟩
   have HX2 := Aside0.mk (blk_below HX.out hb2)
   have HO2 := Aside0.mk (Kd.S_below (Kd.S_bound HO.out) hb2)
   have HN2 := Aside0.mk (Kd.S_bound ho2)
   have HB2 := Aside0.mk (show Below hi w1 w2 from hb2.mono HW.out)
   have HW2 := Aside0.mk (Nat.le_trans HW.out hb2.size)
   have HT := Aside0.mk (Kd.S_lt HO.out)
   have HS2 := Aside0.mk (HS.out.trans (Same.of_below hb2))
   have HZ2 := Aside0.mk hb2.size
   have hHeld2 : w2.cell? ⟨b, 0, none⟩ = some vO := (blk_cell HX2.out 0).trans rfl
   clear ho2 hb2
   refine hK.out _ _ hHeld2 (fun hHeld => ?_)
   clear hK K
   refine norm_ (a' := ?_) ?_ ?_
   rotate_left
   · show Act.put _ (some 5) _ = _
     simp only [Act.put, List.setIfInBounds_toArray, List.set_cons_zero, List.set_cons_succ]
     rfl
   obtain ⟨A2, c2, e2⟩ := Kd.S_slice HN2.out
   subst e2
   refine one_ (i := 3) (N := some 6) #[true, true, true, true, false, false] rfl rfl (by kernel_rfl) (by decide) (fun K hK => ?_)
   refine value_ (w1 := ?_) (v := ?_) (by rfl) rfl ?_ ?_
   rotate_left 2
   · go_simp
     constructor
     · rfl
     · rfl
   refine hK.out _ _ ((World.cell?_alloc_lt _ _ _ (World.block_lt_of_cell? _ _ (hHeld))).trans (hHeld)) (fun hHeld => ?_)
   clear hK K
   refine norm_ (a' := ?_) ?_ ?_
   rotate_left
   · show Act.put _ (some 6) _ = _
     simp only [Act.put, List.setIfInBounds_toArray, List.set_cons_zero, List.set_cons_succ]
     rfl
   refine one_ (i := 4) (N := some 7) #[true, true, true, true, true, false] rfl rfl (by kernel_rfl) (by decide) (fun K hK => ?_)
   refine Kd.S_append_step (Kd.slice 28 (Kd.slice 3 (Kd.int .i64))) (w0 := w1) hi (by rfl) (.tmp 3) (.tmp 6) 22 27 (.slice none 0 0) 24 rfl Try.underlying22 info27 rfl (by decide) (by omega) vO out u [.slice A2 u.length c2] (fun k => hi ≤ k) (fun k => w1.heap.size ≤ k) rfl rfl ?aP ?aQ ?aF ?aO ?aB ?aS ?aL ?_
   case aP => exact Kd.M_row (Kd.R_mono (Kd.R_lower (Kd.S_R HN2.out) HW.out) (fun k hk => hk.2.1))
   case aQ => exact fun k hk => ⟨by have := HW.out; omega, fun e => by have := HT.out k e.symm; omega⟩
   case aF => exact fun k hk => by have := HW2.out; omega
   case aO => exact Kd.S_mono HO2.out (fun k hk => ⟨hk.1, by have := hk.2.2.1; omega⟩)
   case aB => exact HB2.out
   case aS => exact HW2.out
   case aL => have := HL.out; omega
   intro v3 w3 ho3 hb3 hg3 hat3
   have HO3 := Aside0.mk ho3
   have hne : some b ≠ vO.ownBlock := fun e => by have := Kd.S_base HO2.out b e.symm; omega
   have HX3 := Aside0.mk (blk_grown HX2.out hg3 hne)
   have HS3 := Aside0.mk (show Same (fun k => k < lo0 ∨ (lo ≤ k ∧ k < hi)) w2 w3 from ⟨hg3.os, hg3.tape, hg3.output, hg3.size, fun k hk hl => hg3.block k hl (fun e => by have := Kd.S_base HO2.out k e.symm; omega)⟩)
   have hHeld3 : w3.cell? ⟨b, 0, none⟩ = some vO := (blk_cell HX3.out 0).trans rfl
   clear ho3 hb3 hg3 hat3
   refine hK.out _ _ hHeld3 (fun hHeld => ?_)
   clear hK K
   refine norm_ (a' := ?_) ?_ ?_
   rotate_left
   · show Act.put _ (some 7) _ = _
     simp only [Act.put, List.setIfInBounds_toArray, List.set_cons_zero, List.set_cons_succ]
     rfl
   have hfz : w3.frozen? ⟨b, 0, none⟩ = false := blk_frozen HX3.out 0
   obtain ⟨A3, c3, e3⟩ := Kd.S_slice HO3.out
   subst e3
   refine last_ (i := 5) (N := none) #[true, true, true, true, true, true] rfl rfl (by kernel_rfl) (by decide) (fun K hK => ?_)
   refine skip_ (w1 := ?_) (by rfl) rfl ?_ ?_
   rotate_left
   · go_simp
     rfl
   refine hK.out _ _ ?_
   clear hK K
   refine done_ (by kernel_rfl) ?_
   go_wp2
   first | go_end0 | ((try simp only [Exit.inBlock, Exit.then]); refine bodyPost_ret (results_none rfl _ _ _) rfl ?_)
   refine ⟨rfl, ⟨_, by simpa using blk_set HX3.out 0 _, Kd.S_far HO3.out (fun k hk => by show k ≠ b; omega) _⟩, (HS2.out.trans HS3.out).trans (Same.setCell _ _ _ (fun hk => by rcases hk with hk | hk <;> dsimp only at hk <;> omega))⟩
 · rw [if_neg hlim] at h
   cases h
end Go.Proofs.Ytdinepghommchaa.V

/- The walk of All: the search with the closure that collects copies. -/
namespace Go.Proofs.Ytdinepghommchaa.V
open Go.RowKit Go.Proofs.YtdinepghommchaaW.PrintWords Go.Proofs.YtdinepghommchaaW.PrintLast Go.Proofs.YtdinepghommchaaW.PrintMore
set_option linter.unusedVariables false
set_option linter.unusedSimpArgs false

def veils_All.f (n : Int) : Option (List (List (List Int)) × Int) := if n < 1 then some ([], 2) else if 5 < n then some ([], 2) else (veils_all.f n.toNat veils_All1.f []).bind fun r => some (r, 0)

set_option maxHeartbeats 4000000 in
set_option maxRecDepth 100000 in
theorem veils_All.calls (a0 : Int) (r1 : List (List (List Int))) (r2 : Int) (w : World) (h : veils_All.f a0 = some (r1, r2)) :
 Calls Try.prog 13 #[.int .i64 a0] w fun e w' => ∃ v0_ : Value, e = .returned (.tuple #[v0_, .int .i64 r2]) ∧ Kd.R (Kd.slice 28 (Kd.slice 3 (Kd.int .i64))) 27 w' w.heap.size (fun _ => True) v0_ r1 ∧ Below w.heap.size w w' := by
 unfold veils_All.f at h
 by_cases c1 : a0 < 1
 · rw [if_pos c1] at h
   obtain ⟨rfl, rfl⟩ := Prod.mk.inj (Option.some.inj h)
   have d1 : decide (a0 < 1) = true := decide_eq_true c1
   clear h c1
   go_enter Try.func13, Try.ntmps13
   go_wp2
   go_ret2
   exact ⟨.slice none 0 0, rfl, Kd.R_nil _ _ _ _ _, by repeat (first | exact Below.refl _ _ | apply below_alloc)⟩
 · rw [if_neg c1] at h
   by_cases c2 : 5 < a0
   · rw [if_pos c2] at h
     obtain ⟨rfl, rfl⟩ := Prod.mk.inj (Option.some.inj h)
     have d1 : decide (a0 < 1) = false := decide_eq_false c1
     have d2 : decide (5 < a0) = true := decide_eq_true c2
     clear h c1 c2
     go_enter Try.func13, Try.ntmps13
     go_wp2
     go_ret2
     exact ⟨.slice none 0 0, rfl, Kd.R_nil _ _ _ _ _, by repeat (first | exact Below.refl _ _ | apply below_alloc)⟩
   · rw [if_neg c2] at h
     obtain ⟨r, hr, h⟩ := Option.bind_eq_some_iff.mp h
     obtain ⟨rfl, rfl⟩ := Prod.mk.inj (Option.some.inj h)
     obtain ⟨n, rfl⟩ := Int.eq_ofNat_of_zero_le (show 0 ≤ a0 by omega)
     have hn1 : 1 ≤ n := by omega
     have hn5 : n ≤ 5 := by omega
     rw [Int.toNat_natCast] at hr
     have d1 : decide ((n : Int) < 1) = false := decide_eq_false c1
     have d2 : decide (5 < (n : Int)) = false := decide_eq_false c2
     have d3 : decide (n < 1) = false := decide_eq_false (by omega)
     have d4 : decide (5 < n) = false := decide_eq_false (by omega)
     have HR := Aside0.mk hr
     clear h hr c1 c2
     have hmf : ∀ (fn : Fn) (first cap : Array Value) (w : World), (Instr.makeFunc fn first cap).run Try.prog w = .ok (.func fn first cap) w := fun _ _ _ _ => rfl
     have B1 := Aside0.mk (blk_new w (.cells #[.slice none 0 0] 22))
     have hF : Aside0 (∀ hi, (w.alloc (.cells #[.slice none 0 0] 22)).heap.size ≤ hi → Found w.heap.size (w.alloc (.cells #[.slice none 0 0] 22)).heap.size hi 42 #[.pointer (some ⟨w.heap.size, 0, none⟩)] veils_All1.f (AccAll w.heap.size hi)) := ⟨fun hi hh => ⟨fun W A c t a b hw hr hc ha h => veils_All1.calls (lo0 := w.heap.size) (lo := (w.alloc (.cells #[.slice none 0 0] 22)).heap.size) (hi := hi) (Nat.le_refl _) (by simp) hh W A c t a b hw hr hc ha h, fun W W' a ha hs => ha.same (by simp) hs⟩⟩
     have hA : Aside0 (∀ hi, (w.alloc (.cells #[.slice none 0 0] 22)).heap.size ≤ hi → AccAll w.heap.size hi (w.alloc (.cells #[.slice none 0 0] 22)) []) := ⟨fun hi _ => ⟨_, B1.out, Kd.S_nil _ _ _ _ _⟩⟩
     go_enter Try.func13, Try.ntmps13
     go_wp2_with (go_at_call 41; refine (veils_all.calls (Acc := AccAll w.heap.size) hn1 hn5 Try.func42 (by kernel_rfl) rfl [] r _ hF (by simp) hA ⟨HR.out⟩).mono ?_; rintro e w1 ⟨rfl, ⟨hi, hhi, v, hv, hS⟩, hsame⟩; have cv := (blk_cell hv 0).trans (rfl : _ = some v); have HS := Aside0.mk (Kd.S_mono (ok' := fun _ => True) (Kd.S_lower hS (base' := w.heap.size) (by simp at hhi; omega)) (fun _ _ => trivial)); have HM := Aside0.mk hsame; clear hv hS hsame hhi)
     go_ret2
     exact ⟨v, rfl, Kd.S_R HS.out, (below_alloc (Below.refl _ _) _).trans ⟨HM.out.os, HM.out.tape, HM.out.output, HM.out.size, fun k hk => HM.out.block k hk (by simp; omega)⟩⟩
end Go.Proofs.Ytdinepghommchaa.V

-- Written by a program of this session over the kit's printer: wip/gp.py.
namespace Go.Proofs.Ytdinepghommchaa.V
open Go.RowKit Go.Proofs.YtdinepghommchaaW.PrintWords Go.Proofs.YtdinepghommchaaW.PrintLast Go.Proofs.YtdinepghommchaaW.PrintMore
attribute [local go_sem] max2_int min2_int max_two min_two max_three min_three max_four min_four   -- for this text's walks alone
set_option linter.unusedVariables false
set_option linter.unusedSimpArgs false

/-! ### veils_veil_sum: function 54 -/
mutual
def veils_veil_sum.l0 : Nat → Int → Int → List (List Int) → Int → Int → Option (Int)
 | 0, _, _, _, _, _ => none
 | k + 1, x2, x7, x14, x15, x16 => if x16 < x15 then (if 0 ≤ x16 then (if x16 < (x14.length : Int) then (if 0 ≤ x2 then (if x2 ≤ ((rd_L1 x14 x16).length : Int) then (veils_veil_sum.l1 k x2 x7 x14 x15 x16 ((rd_L1 x14 x16).take (x2 : Int).toNat) (((rd_L1 x14 x16).take (x2 : Int).toNat).length : Int) 0) else (none)) else (none)) else (none)) else (none)) else (some x7)
def veils_veil_sum.l1 : Nat → Int → Int → List (List Int) → Int → Int → List Int → Int → Int → Option (Int)
 | 0, _, _, _, _, _, _, _, _ => none
 | k + 1, x2, x7, x14, x15, x16, x22, x23, x24 => if x24 < x23 then (if 0 ≤ x24 then (if x24 < (x22.length : Int) then (veils_veil_sum.l1 k x2 (wrap64 (x7 + (rd x22 x24))) x14 x15 x16 x22 x23 (wrap64 (x24 + 1))) else (none)) else (none)) else (veils_veil_sum.l0 k x2 x7 x14 x15 (wrap64 (x16 + 1)))
end
def veils_veil_sum.f (k : Nat) (l0 : List (List Int)) (a1 : Int) (a2 : Int) : Option (Int) := if 0 ≤ a1 then (if a1 ≤ (l0.length : Int) then ((some (l0.take (a1 : Int).toNat : List (List Int))).bind fun y135 => (veils_veil_sum.l0 k a2 0 y135 (y135.length : Int) 0)) else (none)) else (none)
set_option maxHeartbeats 8000000 in
set_option maxRecDepth 100000 in
theorem veils_veil_sum.calls (k : Nat) (A0 : Option Addr) (c0 : Nat) (l0 : List (List Int)) (a1 : Int) (a2 : Int) (r : Int) (w : World) (hr0 : Kd.C (Kd.slice 3 (Kd.int .i64)) w A0 l0.length l0) (hc0 : l0.length ≤ c0) (h : veils_veil_sum.f k l0 a1 a2 = some r) :
 Calls Try.prog 54 #[.slice A0 l0.length c0, .int .i64 a1, .int .i64 a2] w fun e w' => e = .returned (.int .i64 r) ∧ Drawn0 w w' := by
 have HR0 := Aside0.mk hr0
 have HC0 := Aside0.mk hc0
 clear hr0 hc0
 have H : (if 0 ≤ a1 then (if a1 ≤ (l0.length : Int) then ((some (l0.take (a1 : Int).toNat : List (List Int))).bind fun y135 => (veils_veil_sum.l0 k a2 0 y135 (y135.length : Int) 0)) else (none)) else (none)) = some r := h
 clear h
 by_cases c4 : 0 ≤ a1
 · rw [if_pos c4] at H
   have c4b0 := eq_true c4
   have c4b1 : decide (0 ≤ a1) = true := decide_eq_true c4
   clear c4
   by_cases c5 : a1 ≤ (l0.length : Int)
   · rw [if_pos c5] at H
     have c5b0 := eq_true c5
     have c5b1 : decide (a1 ≤ (l0.length : Int)) = true := decide_eq_true c5
     clear c5
     obtain ⟨y135, hy135⟩ : ∃ y_ : List (List Int), y_ = (l0.take (a1 : Int).toNat) := ⟨_, rfl⟩
     replace H : (veils_veil_sum.l0 k a2 0 y135 (y135.length : Int) 0) = some r := by first | (rw [hy135]; with_reducible exact H) | (have H2_ := (Option.bind_some _ _).symm.trans H; rw [hy135]; with_reducible exact H2_) | (have H2_ := (Option.bind_some _ _).symm.trans H; with_reducible exact H2_) | with_reducible exact H | (rw [hy135]; exact H) | exact H
     have Ny135 := Aside0.mk hy135
     clear hy135
     have H' := Aside0.mk H
     clear H
     have q6 : (a1 : Int) ≤ ((l0.length : Int) : Int) := od_
     obtain ⟨i06, hi06, _, hsz6, _⟩ := info_parts info28
     have hroom6 : l0.length ≤ c0 := HC0.out
     have hC6 : Kd.C (Kd.slice 3 (Kd.int .i64)) _ A0 l0.length l0 := HR0.out
     have hcut6 := cut_to (P := Try.prog) 49 28 .i64 Try.underlying49 hi06 A0 l0.length c0 a1 (od_) q6 hroom6
     have hr6 := Kd.C_take (m := (a1 : Int).toNat) hC6 (by omega)
     have hy6 : y135.length = (a1 : Int).toNat := (by rw [Ny135.out, List.length_take]; omega)
     rw [← Ny135.out] at hr6
     rw [← hy6] at hcut6
     have HR138 := Aside0.mk hr6
     have HC138 := Aside0.mk (show y135.length ≤ c0 from by omega)
     clear hr6 hC6 hroom6 hi06 hsz6
     have KY6 := Aside0.mk hy6
     clear hy6
     replace q6 := eq_true q6
     go_enter Try.func54, Try.ntmps54
     go_wp2
     go_loopg [7, 16] k (fun kq v7 v16 w' => ∃ (x7_1 : Int) (x16_1 : Int), v7 = .int .i64 x7_1 ∧ v16 = .int .i64 x16_1 ∧ Aside0 (veils_veil_sum.l0 kq a2 x7_1 y135 (y135.length : Int) x16_1 = some r) ∧ Aside0 (kq ≤ k) ∧ Drawn0 w w')
     case atStart => exact ⟨(0), (0), rf_, rf_, H', ⟨Nat.le_refl _⟩, dr_⟩
     case round =>
      clear H'
      try clear p2
      try clear c4
      try clear c4b0
      try clear c4b1
      try clear c5
      try clear c5b0
      try clear c5b1
      try clear q6
      try clear q6
      obtain ⟨x7_1, x16_1, rfl, rfl, HA, HK1, ⟨m1, rfl⟩⟩ := hrel
      cases gk with
      | zero => exact absurd HA.out (by simp [veils_veil_sum.l0])
      | succ k1 =>
       have H := HA.out
       clear HA
       simp only [veils_veil_sum.l0] at H
       by_cases c7 : x16_1 < (y135.length : Int)
       · rw [if_pos c7] at H
         have c7b0 : decide (x16_1 < (y135.length : Int)) = true := decide_eq_true c7
         clear c7
         by_cases c8 : 0 ≤ x16_1
         · rw [if_pos c8] at H
           have c8b0 : decide (0 ≤ x16_1) = true := decide_eq_true c8
           clear c8
           by_cases c9 : x16_1 < (y135.length : Int)
           · rw [if_pos c9] at H
             have c9b0 : decide (x16_1 < (y135.length : Int)) = true := decide_eq_true c9
             clear c9
             by_cases c10 : 0 ≤ a2
             · rw [if_pos c10] at H
               have c10b0 := eq_true c10
               have c10b1 : decide (0 ≤ a2) = true := decide_eq_true c10
               clear c10
               by_cases c11 : a2 ≤ ((rd_L1 y135 x16_1).length : Int)
               · rw [if_pos c11] at H
                 have c11b0 := eq_true c11
                 have c11b1 : decide (a2 ≤ ((rd_L1 y135 x16_1).length : Int)) = true := decide_eq_true c11
                 clear c11
                 have H' := Aside0.mk H
                 clear H
                 obtain ⟨ad139, A139_0, c139_0, e139, hx139_0, HC139_0, HR139_0, p139, q139⟩ := al_ HR138.out x16_1
                 cases e139
                 obtain ⟨i012, hi012, _, hsz12, _⟩ := info_parts info3
                 obtain ⟨hcut12, hA12, hC12⟩ := print_take_of (P := Try.prog) (Value.int .i64) 0 28 3 .i64 Try.underlying28 hi012 hsz12 A139_0 c139_0 (rd_L1 y135 x16_1) a2 (od_) (od_) HC139_0.out
                 have hr140 := (Kd.C_of_reads (h1 := fun _ => rfl) (hA12 _ (Kd.reads_of_C HR139_0.out)))
                 clear hA12 hi012 hsz12
                 replace H' := H'.out
                 obtain ⟨y140, hy140⟩ : ∃ y_ : List Int, y_ = ((rd_L1 y135 x16_1).take (a2 : Int).toNat) := ⟨_, rfl⟩
                 have ly140 : (a2 : Int).toNat = y140.length := by
                  have h1_ := of_decide_eq_true c11b1
                  have h2_ := of_decide_eq_true c10b1
                  rw [hy140, List.length_take]; omega
                 rw [← hy140] at hr140 H' hC12
                 try rw [← hy140] at hcut12
                 try rw [ly140] at hcut12
                 have HR140 := Aside0.mk hr140
                 have HC140 := Aside0.mk hC12
                 replace H' := Aside0.mk H'
                 clear hr140 hC12 ly140 hy140
                 go_wp2
                 go_loopg [7, 24] k1 (fun kq v7 v24 w' => ∃ (x7_2 : Int) (x24_2 : Int), v7 = .int .i64 x7_2 ∧ v24 = .int .i64 x24_2 ∧ Aside0 (veils_veil_sum.l1 kq a2 x7_2 y135 (y135.length : Int) x16_1 y140 (y140.length : Int) x24_2 = some r) ∧ Aside0 (kq ≤ k1) ∧ Drawn0 w w')
                 case atStart => exact ⟨(x7_1), (0), rf_, rf_, H', ⟨Nat.le_refl _⟩, dr_⟩
                 case round =>
                  clear H'
                  try clear c1
                  try clear p1
                  try clear q1
                  try clear hx1
                  try clear p2
                  try clear c4
                  try clear c4b0
                  try clear c4b1
                  try clear c5
                  try clear c5b0
                  try clear c5b1
                  try clear q6
                  try clear c7
                  try clear c7b0
                  try clear c8
                  try clear c8b0
                  try clear c9
                  try clear c9b0
                  try clear c10
                  try clear c10b0
                  try clear c10b1
                  try clear c11
                  try clear c11b0
                  try clear c11b1
                  try clear hx139_0
                  try clear p139
                  try clear p2
                  try clear q139
                  try clear q6
                  obtain ⟨x7_2, x24_2, rfl, rfl, HA, HK2, ⟨m2, rfl⟩⟩ := hrel
                  cases gk with
                  | zero => exact absurd HA.out (by simp [veils_veil_sum.l1])
                  | succ k2 =>
                   have H := HA.out
                   clear HA
                   simp only [veils_veil_sum.l1] at H
                   by_cases c13 : x24_2 < (y140.length : Int)
                   · rw [if_pos c13] at H
                     have c13b0 : decide (x24_2 < (y140.length : Int)) = true := decide_eq_true c13
                     clear c13
                     by_cases c14 : 0 ≤ x24_2
                     · rw [if_pos c14] at H
                       have c14b0 : decide (0 ≤ x24_2) = true := decide_eq_true c14
                       clear c14
                       by_cases c15 : x24_2 < (y140.length : Int)
                       · rw [if_pos c15] at H
                         have c15b0 : decide (x24_2 < (y140.length : Int)) = true := decide_eq_true c15
                         clear c15
                         have H' := Aside0.mk H
                         clear H
                         obtain ⟨ad141, e141, hx141_0, p141, q141⟩ := ai_ HR140.out x24_2
                         cases e141
                         go_wp2
                         go_roundg k2
                         case measure => have := HK1.out; have := HK2.out; omega
                         case rel => exact ⟨(wrap64 (x7_2 + (rd y140 x24_2))), (wrap64 (x24_2 + 1)), rf_, rf_, H', ⟨by have := HK1.out; have := HK2.out; omega⟩, dr_⟩
                       · rw [if_neg c15] at H
                         exact absurd H (by simp)
                     · rw [if_neg c14] at H
                       exact absurd H (by simp)
                   · rw [if_neg c13] at H
                     have c13b0 : decide (x24_2 < (y140.length : Int)) = false := decide_eq_false c13
                     clear c13
                     have H' := Aside0.mk H
                     clear H
                     go_wp2
                     go_roundg k2
                     case measure => have := HK1.out; have := HK2.out; omega
                     case rel => exact ⟨(x7_2), (wrap64 (x16_1 + 1)), rf_, rf_, H', ⟨by have := HK1.out; have := HK2.out; omega⟩, dr_⟩
               · rw [if_neg c11] at H
                 exact absurd H (by simp)
             · rw [if_neg c10] at H
               exact absurd H (by simp)
           · rw [if_neg c9] at H
             exact absurd H (by simp)
         · rw [if_neg c8] at H
           exact absurd H (by simp)
       · rw [if_neg c7] at H
         have c7b0 : decide (x16_1 < (y135.length : Int)) = false := decide_eq_false c7
         clear c7
         obtain rfl := Option.some.inj H
         go_wp2
         go_ret
         exact ⟨rf_, dr_⟩
   · rw [if_neg c5] at H
     exact absurd H (by simp)
 · rw [if_neg c4] at H
   exact absurd H (by simp)

end Go.Proofs.Ytdinepghommchaa.V

-- Written by a program of this session over the kit's printer: wip/gp.py.
namespace Go.Proofs.Ytdinepghommchaa.V
open Go.RowKit Go.Proofs.YtdinepghommchaaW.PrintWords Go.Proofs.YtdinepghommchaaW.PrintLast Go.Proofs.YtdinepghommchaaW.PrintMore
attribute [local go_sem] max2_int min2_int max_two min_two max_three min_three max_four min_four   -- for this text's walks alone
set_option linter.unusedVariables false
set_option linter.unusedSimpArgs false

/-! ### veils_veil_size: function 98 -/
def veils_veil_size.f (l0 : List (List Int)) : Option (Int) := some (l0.length : Int)
set_option maxHeartbeats 8000000 in
set_option maxRecDepth 100000 in
theorem veils_veil_size.calls (A0 : Option Addr) (c0 : Nat) (l0 : List (List Int)) (r : Int) (w : World) (hr0 : Kd.C (Kd.slice 3 (Kd.int .i64)) w A0 l0.length l0) (hc0 : l0.length ≤ c0) (h : veils_veil_size.f l0 = some r) :
 Calls Try.prog 98 #[.slice A0 l0.length c0] w fun e w' => e = .returned (.int .i64 r) ∧ Drawn0 w w' := by
 have HR0 := Aside0.mk hr0
 have HC0 := Aside0.mk hc0
 clear hr0 hc0
 have H : (some (l0.length : Int)) = some r := h
 clear h
 obtain rfl := Option.some.inj H
 go_enter Try.func98, Try.ntmps98
 go_wp2
 go_ret
 exact ⟨rf_, dr_⟩

end Go.Proofs.Ytdinepghommchaa.V

/- The walks of raised's closure and of raised over a veil: the heights of a veil. -/
namespace Go.Proofs.Ytdinepghommchaa.V
open Go.RowKit Go.Proofs.YtdinepghommchaaW.PrintWords Go.Proofs.YtdinepghommchaaW.PrintLast Go.Proofs.YtdinepghommchaaW.PrintMore
set_option linter.unusedVariables false
set_option linter.unusedSimpArgs false

def veils_raised1.f (l : List (List Int)) (i j : Int) : Option Int := (veils_veil_sum.f 1000 l i j).bind fun s => some (wrap64 (wrap64 (i + j) - wrap64 (2 * s)))

set_option maxHeartbeats 400000 in
set_option maxRecDepth 100000 in
theorem veils_raised1.calls (l : List (List Int)) (A : Option Addr) (c b : Nat) (i j x : Int) (w : World) (hb : Aside0 (w.heap[b]? = some (.cells #[.iface 49 (.slice A l.length c)] 68 (0, 0))))
 (hr : Aside0 (Kd.C (Kd.slice 3 (Kd.int .i64)) w A l.length l)) (hc : Aside0 (l.length ≤ c)) (h : veils_raised1.f l i j = some x) :
 Calls Try.prog 64 #[.int .i64 i, .int .i64 j, .pointer (some ⟨b, 0, none⟩)] w fun e w' => e = .returned (.int .i64 x) ∧ Below w.heap.size w w' := by
 unfold veils_raised1.f at h
 obtain ⟨s, hs, hx⟩ := Option.bind_eq_some_iff.mp h
 have HS := Aside0.mk hs
 obtain rfl := Option.some.inj hx
 clear h hs hx
 have hcell : w.cell? ⟨b, 0, none⟩ = some (.iface 49 (.slice A l.length c)) := (blk_cell hb.out 0).trans rfl
 have hm := H.m_veil_sum A l.length c
 go_enter Try.func64, Try.ntmps64
 go_wp2_with (go_at_call 54; refine (veils_veil_sum.calls 1000 A c l i j s _ hr.out hc.out HS.out).mono ?_; rintro e w' ⟨rfl, ⟨nd, rfl⟩⟩)
 go_ret
 exact ⟨rfl, pw_below_drewN (Below.refl _ _) _⟩

def veils_raised.f (l : List (List Int)) : Option (List (List Int)) := veils_made_int.f (veils_raised1.f l) 1000 (wrap64 ((l.length : Int) + 1))

set_option maxHeartbeats 400000 in
set_option maxRecDepth 100000 in
theorem veils_raised.calls (A0 : Option Addr) (c0 : Nat) (l0 : List (List Int)) (r : List (List Int)) (w : World) (hr0 : Kd.C (Kd.slice 3 (Kd.int .i64)) w A0 l0.length l0) (hc0 : l0.length ≤ c0) (h : veils_raised.f l0 = some r) :
 Calls Try.prog 49 #[.iface 49 (.slice A0 l0.length c0)] w fun e w' => ∃ v0_ : Value, e = .returned (v0_) ∧ Kd.S (Kd.slice 3 (Kd.int .i64)) 28 w' w.heap.size (fun _ => True) v0_ r ∧ Below w.heap.size w w' := by
 have HR := Aside0.mk hr0
 have HC := Aside0.mk hc0
 have HH := Aside0.mk h
 clear hr0 hc0 h
 have hm := H.m_veil_size A0 l0.length c0
 have hmf : ∀ (fn : Fn) (first cap : Array Value) (w : World), (Instr.makeFunc fn first cap).run Try.prog w = .ok (.func fn first cap) w := fun _ _ _ _ => rfl
 have hcell : (w.alloc (.cells #[.iface 49 (.slice A0 l0.length c0)] 68)).cell? ⟨w.heap.size, 0, none⟩ = some (.iface 49 (.slice A0 l0.length c0)) := by
  rw [World.cell?_alloc_at _ _ _ _ rfl]; rfl
 go_enter Try.func49, Try.ntmps49
 go_wp2_with (first | (go_at_call 98; refine (veils_veil_size.calls A0 c0 l0 _ _ ?s1 HC.out rfl).mono ?_; (case s1 => exact Kd.C_below HR.out (below_alloc (Below.refl _ _) _)); rintro e w' ⟨rfl, ⟨nd, rfl⟩⟩) | (go_at_call 59; refine (veils_made_int.calls (veils_raised1.f l0) Try.func64 (by kernel_rfl) rfl #[.pointer (some ⟨w.heap.size, 0, none⟩)] 1000 (wrap64 ((l0.length : Int) + 1)) r _ ?g1 HH.out).mono ?_; rotate_left; (rintro e w' ⟨v0, rfl, ho, hb⟩)))
 · go_ret
   exact ⟨v0, rfl, Kd.S_lower ho (below_size (pw_below_drewN (below_alloc (Below.refl _ _) _) _)), below_step (pw_below_drewN (below_alloc (Below.refl _ _) _) _) hb⟩
 case g1 =>
   refine ⟨fun i j x W hB hx => ?_⟩
   refine veils_raised1.calls l0 A0 c0 w.heap.size i j x W ⟨?_⟩ ⟨Kd.C_below (Kd.C_below HR.out (pw_below_drewN (below_alloc (Below.refl _ _) _) _)) hB⟩ HC hx
   exact (hB.block _ (by simp)).trans (by simpa using heap_alloc_new w _)
end Go.Proofs.Ytdinepghommchaa.V

-- Written by a program of this session over the kit's printer: wip/gp.py.
namespace Go.Proofs.Ytdinepghommchaa.V
open Go.RowKit Go.Proofs.YtdinepghommchaaW.PrintWords Go.Proofs.YtdinepghommchaaW.PrintLast Go.Proofs.YtdinepghommchaaW.PrintMore
attribute [local go_sem] max2_int min2_int max_two min_two max_three min_three max_four min_four   -- for this text's walks alone
set_option linter.unusedVariables false
set_option linter.unusedSimpArgs false

/-! ### veils_heights_thread: function 77 -/
def veils_heights_thread.f (l0 : List (List Int)) (a1_0 : Int) (a1_1 : Int) (a1_2 : Int) : Option (Bool) := if a1_2 = 0 then (if 0 ≤ (wrap64 (a1_0 - 1)) then (if (wrap64 (a1_0 - 1)) < (l0.length : Int) then (if 0 ≤ a1_1 then (if a1_1 < ((rd_L1 l0 (wrap64 (a1_0 - 1))).length : Int) then (if 0 ≤ (mx (wrap64 ((wrap64 (a1_0 - 1)) - 1)) 0) then (if (mx (wrap64 ((wrap64 (a1_0 - 1)) - 1)) 0) < (l0.length : Int) then (if a1_1 < ((rd_L1 l0 (mx (wrap64 ((wrap64 (a1_0 - 1)) - 1)) 0)).length : Int) then (if 0 ≤ (mx (wrap64 (a1_1 - 1)) 0) then (if (mx (wrap64 (a1_1 - 1)) 0) < ((rd_L1 l0 (wrap64 (a1_0 - 1))).length : Int) then (some (((wrap64 ((rd (rd_L1 l0 (wrap64 (a1_0 - 1))) a1_1) - (rd (rd_L1 l0 (wrap64 (a1_0 - 1))) (mx (wrap64 (a1_1 - 1)) 0)))) == 1) == ((Int.tmod (wrap64 ((wrap64 (a1_0 - 1)) + a1_1)) 2) == 1))) else (none)) else (none)) else (none)) else (none)) else (none)) else (none)) else (none)) else (none)) else (none)) else (if a1_2 = 3 then (if 0 ≤ a1_0 then (if a1_0 < (l0.length : Int) then (if 0 ≤ (wrap64 (a1_1 - 1)) then (if (wrap64 (a1_1 - 1)) < ((rd_L1 l0 a1_0).length : Int) then (if 0 ≤ (mx (wrap64 (a1_0 - 1)) 0) then (if (mx (wrap64 (a1_0 - 1)) 0) < (l0.length : Int) then (if (wrap64 (a1_1 - 1)) < ((rd_L1 l0 (mx (wrap64 (a1_0 - 1)) 0)).length : Int) then (if a1_2 = 2 then (if 0 ≤ (mx (wrap64 ((wrap64 (a1_1 - 1)) - 1)) 0) then (if (mx (wrap64 ((wrap64 (a1_1 - 1)) - 1)) 0) < ((rd_L1 l0 a1_0).length : Int) then (some (((wrap64 ((rd (rd_L1 l0 a1_0) (wrap64 (a1_1 - 1))) - (rd (rd_L1 l0 a1_0) (mx (wrap64 ((wrap64 (a1_1 - 1)) - 1)) 0)))) == 1) == ((Int.tmod (wrap64 (a1_0 + (wrap64 (a1_1 - 1)))) 2) == 1))) else (none)) else (none)) else (some (((wrap64 ((rd (rd_L1 l0 a1_0) (wrap64 (a1_1 - 1))) - (rd (rd_L1 l0 (mx (wrap64 (a1_0 - 1)) 0)) (wrap64 (a1_1 - 1))))) == 1) == ((Int.tmod (wrap64 (a1_0 + (wrap64 (a1_1 - 1)))) 2) == 0)))) else (none)) else (none)) else (none)) else (none)) else (none)) else (none)) else (none)) else (if 0 ≤ a1_0 then (if a1_0 < (l0.length : Int) then (if 0 ≤ a1_1 then (if a1_1 < ((rd_L1 l0 a1_0).length : Int) then (if 0 ≤ (mx (wrap64 (a1_0 - 1)) 0) then (if (mx (wrap64 (a1_0 - 1)) 0) < (l0.length : Int) then (if a1_1 < ((rd_L1 l0 (mx (wrap64 (a1_0 - 1)) 0)).length : Int) then (if a1_2 = 2 then (if 0 ≤ (mx (wrap64 (a1_1 - 1)) 0) then (if (mx (wrap64 (a1_1 - 1)) 0) < ((rd_L1 l0 a1_0).length : Int) then (some (((wrap64 ((rd (rd_L1 l0 a1_0) a1_1) - (rd (rd_L1 l0 a1_0) (mx (wrap64 (a1_1 - 1)) 0)))) == 1) == ((Int.tmod (wrap64 (a1_0 + a1_1)) 2) == 1))) else (none)) else (none)) else (some (((wrap64 ((rd (rd_L1 l0 a1_0) a1_1) - (rd (rd_L1 l0 (mx (wrap64 (a1_0 - 1)) 0)) a1_1))) == 1) == ((Int.tmod (wrap64 (a1_0 + a1_1)) 2) == 0)))) else (none)) else (none)) else (none)) else (none)) else (none)) else (none)) else (none)))
set_option maxHeartbeats 8000000 in
set_option maxRecDepth 100000 in
theorem veils_heights_thread.calls (A0 : Option Addr) (c0 : Nat) (l0 : List (List Int)) (a1_0 : Int) (a1_1 : Int) (a1_2 : Int) (r : Bool) (w : World) (hr0 : Kd.C (Kd.slice 3 (Kd.int .i64)) w A0 l0.length l0) (hc0 : l0.length ≤ c0) (h : veils_heights_thread.f l0 a1_0 a1_1 a1_2 = some r) :
 Calls Try.prog 77 #[.slice A0 l0.length c0, .agg #[.int .i64 a1_0, .int .i64 a1_1, .int .i64 a1_2]] w fun e w' => e = .returned (.bool r) ∧ Below w.heap.size w w' := by
 have hu73 := Try.underlying73
 have HR0 := Aside0.mk hr0
 have HC0 := Aside0.mk hc0
 clear hr0 hc0
 have HB := Aside0.mk (Below.refl w.heap.size w)
 have H : (if a1_2 = 0 then (if 0 ≤ (wrap64 (a1_0 - 1)) then (if (wrap64 (a1_0 - 1)) < (l0.length : Int) then (if 0 ≤ a1_1 then (if a1_1 < ((rd_L1 l0 (wrap64 (a1_0 - 1))).length : Int) then (if 0 ≤ (mx (wrap64 ((wrap64 (a1_0 - 1)) - 1)) 0) then (if (mx (wrap64 ((wrap64 (a1_0 - 1)) - 1)) 0) < (l0.length : Int) then (if a1_1 < ((rd_L1 l0 (mx (wrap64 ((wrap64 (a1_0 - 1)) - 1)) 0)).length : Int) then (if 0 ≤ (mx (wrap64 (a1_1 - 1)) 0) then (if (mx (wrap64 (a1_1 - 1)) 0) < ((rd_L1 l0 (wrap64 (a1_0 - 1))).length : Int) then (some (((wrap64 ((rd (rd_L1 l0 (wrap64 (a1_0 - 1))) a1_1) - (rd (rd_L1 l0 (wrap64 (a1_0 - 1))) (mx (wrap64 (a1_1 - 1)) 0)))) == 1) == ((Int.tmod (wrap64 ((wrap64 (a1_0 - 1)) + a1_1)) 2) == 1))) else (none)) else (none)) else (none)) else (none)) else (none)) else (none)) else (none)) else (none)) else (none)) else (if a1_2 = 3 then (if 0 ≤ a1_0 then (if a1_0 < (l0.length : Int) then (if 0 ≤ (wrap64 (a1_1 - 1)) then (if (wrap64 (a1_1 - 1)) < ((rd_L1 l0 a1_0).length : Int) then (if 0 ≤ (mx (wrap64 (a1_0 - 1)) 0) then (if (mx (wrap64 (a1_0 - 1)) 0) < (l0.length : Int) then (if (wrap64 (a1_1 - 1)) < ((rd_L1 l0 (mx (wrap64 (a1_0 - 1)) 0)).length : Int) then (if a1_2 = 2 then (if 0 ≤ (mx (wrap64 ((wrap64 (a1_1 - 1)) - 1)) 0) then (if (mx (wrap64 ((wrap64 (a1_1 - 1)) - 1)) 0) < ((rd_L1 l0 a1_0).length : Int) then (some (((wrap64 ((rd (rd_L1 l0 a1_0) (wrap64 (a1_1 - 1))) - (rd (rd_L1 l0 a1_0) (mx (wrap64 ((wrap64 (a1_1 - 1)) - 1)) 0)))) == 1) == ((Int.tmod (wrap64 (a1_0 + (wrap64 (a1_1 - 1)))) 2) == 1))) else (none)) else (none)) else (some (((wrap64 ((rd (rd_L1 l0 a1_0) (wrap64 (a1_1 - 1))) - (rd (rd_L1 l0 (mx (wrap64 (a1_0 - 1)) 0)) (wrap64 (a1_1 - 1))))) == 1) == ((Int.tmod (wrap64 (a1_0 + (wrap64 (a1_1 - 1)))) 2) == 0)))) else (none)) else (none)) else (none)) else (none)) else (none)) else (none)) else (none)) else (if 0 ≤ a1_0 then (if a1_0 < (l0.length : Int) then (if 0 ≤ a1_1 then (if a1_1 < ((rd_L1 l0 a1_0).length : Int) then (if 0 ≤ (mx (wrap64 (a1_0 - 1)) 0) then (if (mx (wrap64 (a1_0 - 1)) 0) < (l0.length : Int) then (if a1_1 < ((rd_L1 l0 (mx (wrap64 (a1_0 - 1)) 0)).length : Int) then (if a1_2 = 2 then (if 0 ≤ (mx (wrap64 (a1_1 - 1)) 0) then (if (mx (wrap64 (a1_1 - 1)) 0) < ((rd_L1 l0 a1_0).length : Int) then (some (((wrap64 ((rd (rd_L1 l0 a1_0) a1_1) - (rd (rd_L1 l0 a1_0) (mx (wrap64 (a1_1 - 1)) 0)))) == 1) == ((Int.tmod (wrap64 (a1_0 + a1_1)) 2) == 1))) else (none)) else (none)) else (some (((wrap64 ((rd (rd_L1 l0 a1_0) a1_1) - (rd (rd_L1 l0 (mx (wrap64 (a1_0 - 1)) 0)) a1_1))) == 1) == ((Int.tmod (wrap64 (a1_0 + a1_1)) 2) == 0)))) else (none)) else (none)) else (none)) else (none)) else (none)) else (none)) else (none)))) = some r := h
 clear h
 by_cases c3 : a1_2 = 0
 · rw [if_pos c3] at H
   have c3b0 : (a1_2 == 0) = true := beq_iff_eq.mpr c3
   have c3b1 : (a1_2 != 0) = false := bne_eq_false_iff_eq.mpr c3
   clear c3
   obtain ⟨ji4, hji4⟩ : ∃ j_ : Int, (wrap64 (a1_0 - 1)) = j_ := ⟨_, rfl⟩
   replace H : (if 0 ≤ (ji4) then (if (ji4) < (l0.length : Int) then (if 0 ≤ a1_1 then (if a1_1 < ((rd_L1 l0 (ji4)).length : Int) then (if 0 ≤ (mx (wrap64 ((ji4) - 1)) 0) then (if (mx (wrap64 ((ji4) - 1)) 0) < (l0.length : Int) then (if a1_1 < ((rd_L1 l0 (mx (wrap64 ((ji4) - 1)) 0)).length : Int) then (if 0 ≤ (mx (wrap64 (a1_1 - 1)) 0) then (if (mx (wrap64 (a1_1 - 1)) 0) < ((rd_L1 l0 (ji4)).length : Int) then (some (((wrap64 ((rd (rd_L1 l0 (ji4)) a1_1) - (rd (rd_L1 l0 (ji4)) (mx (wrap64 (a1_1 - 1)) 0)))) == 1) == ((Int.tmod (wrap64 ((ji4) + a1_1)) 2) == 1))) else (none)) else (none)) else (none)) else (none)) else (none)) else (none)) else (none)) else (none)) else (none)) = some r := by first | (rw [hji4] at H; exact H) | (simp only [hji4] at H ⊢; exact H)
   have hji4w : (IntKind.i64.wrap (a1_0 - 1)) = ji4 := (i64_w _).trans hji4
   by_cases c5 : 0 ≤ (ji4)
   · rw [if_pos c5] at H
     have c5b0 : decide (0 ≤ (ji4)) = true := decide_eq_true c5
     clear c5
     by_cases c6 : (ji4) < (l0.length : Int)
     · rw [if_pos c6] at H
       have c6b0 : decide ((ji4) < (l0.length : Int)) = true := decide_eq_true c6
       clear c6
       by_cases c7 : 0 ≤ a1_1
       · rw [if_pos c7] at H
         have c7b0 : decide (0 ≤ a1_1) = true := decide_eq_true c7
         clear c7
         by_cases c8 : a1_1 < ((rd_L1 l0 (ji4)).length : Int)
         · rw [if_pos c8] at H
           have c8b0 : decide (a1_1 < ((rd_L1 l0 (ji4)).length : Int)) = true := decide_eq_true c8
           clear c8
           obtain ⟨ji9, hji9⟩ : ∃ j_ : Int, (mx (wrap64 ((ji4) - 1)) 0) = j_ := ⟨_, rfl⟩
           replace H : (if 0 ≤ (ji9) then (if (ji9) < (l0.length : Int) then (if a1_1 < ((rd_L1 l0 (ji9)).length : Int) then (if 0 ≤ (mx (wrap64 (a1_1 - 1)) 0) then (if (mx (wrap64 (a1_1 - 1)) 0) < ((rd_L1 l0 (ji4)).length : Int) then (some (((wrap64 ((rd (rd_L1 l0 (ji4)) a1_1) - (rd (rd_L1 l0 (ji4)) (mx (wrap64 (a1_1 - 1)) 0)))) == 1) == ((Int.tmod (wrap64 ((ji4) + a1_1)) 2) == 1))) else (none)) else (none)) else (none)) else (none)) else (none)) = some r := by first | (rw [hji9] at H; exact H) | (simp only [hji9] at H ⊢; exact H)
           have hji9_ : (if (wrap64 ((ji4) - 1)) < 0 then 0 else (wrap64 ((ji4) - 1))) = ji9 := hji9
           by_cases c10 : 0 ≤ (ji9)
           · rw [if_pos c10] at H
             have c10b0 : decide (0 ≤ (ji9)) = true := decide_eq_true c10
             clear c10
             by_cases c11 : (ji9) < (l0.length : Int)
             · rw [if_pos c11] at H
               have c11b0 : decide ((ji9) < (l0.length : Int)) = true := decide_eq_true c11
               clear c11
               by_cases c12 : a1_1 < ((rd_L1 l0 (ji9)).length : Int)
               · rw [if_pos c12] at H
                 have c12b0 : decide (a1_1 < ((rd_L1 l0 (ji9)).length : Int)) = true := decide_eq_true c12
                 clear c12
                 obtain ⟨ji13, hji13⟩ : ∃ j_ : Int, (mx (wrap64 (a1_1 - 1)) 0) = j_ := ⟨_, rfl⟩
                 replace H : (if 0 ≤ (ji13) then (if (ji13) < ((rd_L1 l0 (ji4)).length : Int) then (some (((wrap64 ((rd (rd_L1 l0 (ji4)) a1_1) - (rd (rd_L1 l0 (ji4)) (ji13)))) == 1) == ((Int.tmod (wrap64 ((ji4) + a1_1)) 2) == 1))) else (none)) else (none)) = some r := by first | (rw [hji13] at H; exact H) | (simp only [hji13] at H ⊢; exact H)
                 (try (have hji13l : 0 ≤ ji13 := by (rw [← hji13]; unfold mx; (repeat' split) <;> omega)))
                 (try (have hji13m : 0 ≤ ji13 := by omega))
                 have hji13_ : (if (wrap64 (a1_1 - 1)) < 0 then 0 else (wrap64 (a1_1 - 1))) = ji13 := hji13
                 by_cases c14 : 0 ≤ (ji13)
                 · rw [if_pos c14] at H
                   have c14b0 : decide (0 ≤ (ji13)) = true := decide_eq_true c14
                   clear c14
                   by_cases c15 : (ji13) < ((rd_L1 l0 (ji4)).length : Int)
                   · rw [if_pos c15] at H
                     have c15b0 : decide ((ji13) < ((rd_L1 l0 (ji4)).length : Int)) = true := decide_eq_true c15
                     clear c15
                     obtain rfl := Option.some.inj H
                     go_enter Try.func77, Try.ntmps77
                     go_wp2_with (first | ((with_reducible refine gate_dst (N := 3) rfl ?_); refine box_event ?hg (N := 3) ?hd (cs := #[.int .i64 a1_0, .int .i64 a1_1, .int .i64 a1_2]) (t := 73) ?hr ?_; (case hd => rfl); (case hg => rfl); (case hr => first | (go_simp; done) | (go_simp; rfl)); intro gb253 hg w16 hbox hb; have n0_ := Aside0.mk (below_step (bel_) hb); have n1_ := Aside0.mk (hbox); have n2_ := Aside0.mk ((by rw [hg]; exact (below_size (bel_)) : w.heap.size ≤ gb253)); have n3_ := Aside0.mk ((by rw [hg]; exact (below_size (bel_)) : w.heap.size ≤ gb253)); clear HB; have HB := n0_; have BK253 := n1_; have GW253 := n2_; have GE253 := n3_; clear n0_ n1_ n2_ n3_; clear hb hbox hg; have hcz17_0 : w16.cell? ⟨gb253, 0, none⟩ = some (.int .i64 a1_0) := (blk_cell BK253.out 0).trans rfl; have hcz17_1 : w16.cell? ⟨gb253, 1, none⟩ = some (.int .i64 a1_1) := (blk_cell BK253.out 1).trans rfl; have hcz17_2 : w16.cell? ⟨gb253, 2, none⟩ = some (.int .i64 a1_2) := (blk_cell BK253.out 2).trans rfl; have hfz17_0 := blk_frozen BK253.out 0; have hfz17_1 := blk_frozen BK253.out 1; have hfz17_2 := blk_frozen BK253.out 2; have p254 : 0 ≤ ((ji4) : Int) := od_; have q254 : (ji4) < (l0.length : Int) := od_; obtain ⟨ad254, A254_0, c254_0, e254, hx254_0, hl254_0, hi254_0⟩ := at_L1 HR0.out (ji4) p254 q254; cases e254; replace hx254_0 := (HB.out.cell (World.block_lt_of_cell? w _ hx254_0)).trans hx254_0; have HR254_0 := Aside0.mk hi254_0; have HC254_0 := Aside0.mk hl254_0; clear hi254_0 hl254_0; replace p254 := eq_true p254; replace q254 := eq_true q254; have p255 : 0 ≤ (a1_1 : Int) := od_; have q255 : a1_1 < ((rd_L1 l0 (ji4)).length : Int) := od_; obtain ⟨ad255, e255, hx255_0⟩ := Kd.at_int HR254_0.out a1_1 p255 q255; cases e255; replace hx255_0 := (HB.out.cell (World.block_lt_of_cell? w _ hx255_0)).trans hx255_0; replace p255 := eq_true p255; replace q255 := eq_true q255; have p256 : 0 ≤ ((ji9) : Int) := od_; have q256 : (ji9) < (l0.length : Int) := od_; obtain ⟨ad256, A256_0, c256_0, e256, hx256_0, hl256_0, hi256_0⟩ := at_L1 HR0.out (ji9) p256 q256; obtain rfl : ad254 = ad256 := (by injection e256); replace hx256_0 := (HB.out.cell (World.block_lt_of_cell? w _ hx256_0)).trans hx256_0; have HR256_0 := Aside0.mk hi256_0; have HC256_0 := Aside0.mk hl256_0; clear hi256_0 hl256_0; replace p256 := eq_true p256; replace q256 := eq_true q256; have p257 : 0 ≤ (a1_1 : Int) := od_; have q257 : a1_1 < ((rd_L1 l0 (ji9)).length : Int) := od_; obtain ⟨ad257, e257, hx257_0⟩ := Kd.at_int HR256_0.out a1_1 p257 q257; cases e257; replace hx257_0 := (HB.out.cell (World.block_lt_of_cell? w _ hx257_0)).trans hx257_0; replace p257 := eq_true p257; replace q257 := eq_true q257; have p258 : 0 ≤ ((ji4) : Int) := od_; have q258 : (ji4) < (l0.length : Int) := od_; obtain ⟨ad258, A258_0, c258_0, e258, hx258_0, hl258_0, hi258_0⟩ := at_L1 HR0.out (ji4) p258 q258; obtain rfl : ad254 = ad258 := (by injection e258); replace hx258_0 := (HB.out.cell (World.block_lt_of_cell? w _ hx258_0)).trans hx258_0; have HR258_0 := Aside0.mk hi258_0; have HC258_0 := Aside0.mk hl258_0; clear hi258_0 hl258_0; replace p258 := eq_true p258; replace q258 := eq_true q258; have ea_ := Option.some.inj (hx254_0.symm.trans hx258_0); injection ea_ with ea_ en_ ec_; subst ea_; subst ec_; clear en_; have p259 : 0 ≤ (a1_1 : Int) := od_; have q259 : a1_1 < ((rd_L1 l0 (ji4)).length : Int) := od_; obtain ⟨ad259, e259, hx259_0⟩ := Kd.at_int HR258_0.out a1_1 p259 q259; cases e259; replace hx259_0 := (HB.out.cell (World.block_lt_of_cell? w _ hx259_0)).trans hx259_0; replace p259 := eq_true p259; replace q259 := eq_true q259; have p260 : 0 ≤ ((ji4) : Int) := od_; have q260 : (ji4) < (l0.length : Int) := od_; obtain ⟨ad260, A260_0, c260_0, e260, hx260_0, hl260_0, hi260_0⟩ := at_L1 HR0.out (ji4) p260 q260; obtain rfl : ad254 = ad260 := (by injection e260); replace hx260_0 := (HB.out.cell (World.block_lt_of_cell? w _ hx260_0)).trans hx260_0; have HR260_0 := Aside0.mk hi260_0; have HC260_0 := Aside0.mk hl260_0; clear hi260_0 hl260_0; replace p260 := eq_true p260; replace q260 := eq_true q260; have ea_ := Option.some.inj (hx254_0.symm.trans hx260_0); injection ea_ with ea_ en_ ec_; subst ea_; subst ec_; clear en_; have p261 : 0 ≤ ((ji13) : Int) := od_; have q261 : (ji13) < ((rd_L1 l0 (ji4)).length : Int) := od_; obtain ⟨ad261, e261, hx261_0⟩ := Kd.at_int HR260_0.out (ji13) p261 q261; cases e261; replace hx261_0 := (HB.out.cell (World.block_lt_of_cell? w _ hx261_0)).trans hx261_0; replace p261 := eq_true p261; replace q261 := eq_true q261))
                     repeat (go_quiet (fail); try go_wp2)
                     go_ret
                     exact ⟨by first | rfl | (simp [errW_none, errW_some] <;> rfl) | (simp only [← hji4, ← hji9, ← hji13]; first | rfl | (simp [errW_none, errW_some] <;> rfl)) | (simp [*, errW_none, errW_some] <;> rfl), by repeat (first | (with_reducible first | exact HB.out | apply below_alloc | apply pw_below_drewN | apply below_drew1 | refine below_set ?_ GE253.out) | exact HB.out)⟩
                   · rw [if_neg c15] at H
                     exact absurd H (by simp)
                 · rw [if_neg c14] at H
                   exact absurd H (by simp)
               · rw [if_neg c12] at H
                 exact absurd H (by simp)
             · rw [if_neg c11] at H
               exact absurd H (by simp)
           · rw [if_neg c10] at H
             exact absurd H (by simp)
         · rw [if_neg c8] at H
           exact absurd H (by simp)
       · rw [if_neg c7] at H
         exact absurd H (by simp)
     · rw [if_neg c6] at H
       exact absurd H (by simp)
   · rw [if_neg c5] at H
     exact absurd H (by simp)
 · rw [if_neg c3] at H
   have c3b0 : (a1_2 == 0) = false := beq_eq_false_iff_ne.mpr c3
   have c3b1 : (a1_2 != 0) = true := bne_iff_ne.mpr c3
   by_cases c18 : a1_2 = 3
   · rw [if_pos c18] at H
     have c18b0 : (a1_2 == 3) = true := beq_iff_eq.mpr c18
     have c18b1 : (a1_2 != 3) = false := bne_eq_false_iff_eq.mpr c18
     clear c18
     by_cases c19 : 0 ≤ a1_0
     · rw [if_pos c19] at H
       have c19b0 : decide (0 ≤ a1_0) = true := decide_eq_true c19
       clear c19
       by_cases c20 : a1_0 < (l0.length : Int)
       · rw [if_pos c20] at H
         have c20b0 : decide (a1_0 < (l0.length : Int)) = true := decide_eq_true c20
         clear c20
         obtain ⟨ji21, hji21⟩ : ∃ j_ : Int, (wrap64 (a1_1 - 1)) = j_ := ⟨_, rfl⟩
         replace H : (if 0 ≤ (ji21) then (if (ji21) < ((rd_L1 l0 a1_0).length : Int) then (if 0 ≤ (mx (wrap64 (a1_0 - 1)) 0) then (if (mx (wrap64 (a1_0 - 1)) 0) < (l0.length : Int) then (if (ji21) < ((rd_L1 l0 (mx (wrap64 (a1_0 - 1)) 0)).length : Int) then (if a1_2 = 2 then (if 0 ≤ (mx (wrap64 ((ji21) - 1)) 0) then (if (mx (wrap64 ((ji21) - 1)) 0) < ((rd_L1 l0 a1_0).length : Int) then (some (((wrap64 ((rd (rd_L1 l0 a1_0) (ji21)) - (rd (rd_L1 l0 a1_0) (mx (wrap64 ((ji21) - 1)) 0)))) == 1) == ((Int.tmod (wrap64 (a1_0 + (ji21))) 2) == 1))) else (none)) else (none)) else (some (((wrap64 ((rd (rd_L1 l0 a1_0) (ji21)) - (rd (rd_L1 l0 (mx (wrap64 (a1_0 - 1)) 0)) (ji21)))) == 1) == ((Int.tmod (wrap64 (a1_0 + (ji21))) 2) == 0)))) else (none)) else (none)) else (none)) else (none)) else (none)) = some r := by first | (rw [hji21] at H; exact H) | (simp only [hji21] at H ⊢; exact H)
         have hji21w : (IntKind.i64.wrap (a1_1 - 1)) = ji21 := (i64_w _).trans hji21
         by_cases c22 : 0 ≤ (ji21)
         · rw [if_pos c22] at H
           have c22b0 : decide (0 ≤ (ji21)) = true := decide_eq_true c22
           clear c22
           by_cases c23 : (ji21) < ((rd_L1 l0 a1_0).length : Int)
           · rw [if_pos c23] at H
             have c23b0 : decide ((ji21) < ((rd_L1 l0 a1_0).length : Int)) = true := decide_eq_true c23
             clear c23
             obtain ⟨ji24, hji24⟩ : ∃ j_ : Int, (mx (wrap64 (a1_0 - 1)) 0) = j_ := ⟨_, rfl⟩
             replace H : (if 0 ≤ (ji24) then (if (ji24) < (l0.length : Int) then (if (ji21) < ((rd_L1 l0 (ji24)).length : Int) then (if a1_2 = 2 then (if 0 ≤ (mx (wrap64 ((ji21) - 1)) 0) then (if (mx (wrap64 ((ji21) - 1)) 0) < ((rd_L1 l0 a1_0).length : Int) then (some (((wrap64 ((rd (rd_L1 l0 a1_0) (ji21)) - (rd (rd_L1 l0 a1_0) (mx (wrap64 ((ji21) - 1)) 0)))) == 1) == ((Int.tmod (wrap64 (a1_0 + (ji21))) 2) == 1))) else (none)) else (none)) else (some (((wrap64 ((rd (rd_L1 l0 a1_0) (ji21)) - (rd (rd_L1 l0 (ji24)) (ji21)))) == 1) == ((Int.tmod (wrap64 (a1_0 + (ji21))) 2) == 0)))) else (none)) else (none)) else (none)) = some r := by first | (rw [hji24] at H; exact H) | (simp only [hji24] at H ⊢; exact H)
             (try (have hji24l : 0 ≤ ji24 := by (rw [← hji24]; unfold mx; (repeat' split) <;> omega)))
             (try (have hji24m : 0 ≤ ji24 := by omega))
             have hji24_ : (if (wrap64 (a1_0 - 1)) < 0 then 0 else (wrap64 (a1_0 - 1))) = ji24 := hji24
             by_cases c25 : 0 ≤ (ji24)
             · rw [if_pos c25] at H
               have c25b0 : decide (0 ≤ (ji24)) = true := decide_eq_true c25
               clear c25
               by_cases c26 : (ji24) < (l0.length : Int)
               · rw [if_pos c26] at H
                 have c26b0 : decide ((ji24) < (l0.length : Int)) = true := decide_eq_true c26
                 clear c26
                 by_cases c27 : (ji21) < ((rd_L1 l0 (ji24)).length : Int)
                 · rw [if_pos c27] at H
                   have c27b0 : decide ((ji21) < ((rd_L1 l0 (ji24)).length : Int)) = true := decide_eq_true c27
                   clear c27
                   by_cases c28 : a1_2 = 2
                   · rw [if_pos c28] at H
                     have c28b0 : (a1_2 == 2) = true := beq_iff_eq.mpr c28
                     have c28b1 : (a1_2 != 2) = false := bne_eq_false_iff_eq.mpr c28
                     clear c28
                     obtain ⟨ji29, hji29⟩ : ∃ j_ : Int, (mx (wrap64 ((ji21) - 1)) 0) = j_ := ⟨_, rfl⟩
                     replace H : (if 0 ≤ (ji29) then (if (ji29) < ((rd_L1 l0 a1_0).length : Int) then (some (((wrap64 ((rd (rd_L1 l0 a1_0) (ji21)) - (rd (rd_L1 l0 a1_0) (ji29)))) == 1) == ((Int.tmod (wrap64 (a1_0 + (ji21))) 2) == 1))) else (none)) else (none)) = some r := by first | (rw [hji29] at H; exact H) | (simp only [hji29] at H ⊢; exact H)
                     have hji29_ : (if (wrap64 ((ji21) - 1)) < 0 then 0 else (wrap64 ((ji21) - 1))) = ji29 := hji29
                     by_cases c30 : 0 ≤ (ji29)
                     · rw [if_pos c30] at H
                       have c30b0 : decide (0 ≤ (ji29)) = true := decide_eq_true c30
                       clear c30
                       by_cases c31 : (ji29) < ((rd_L1 l0 a1_0).length : Int)
                       · rw [if_pos c31] at H
                         have c31b0 : decide ((ji29) < ((rd_L1 l0 a1_0).length : Int)) = true := decide_eq_true c31
                         clear c31
                         obtain rfl := Option.some.inj H
                         go_enter Try.func77, Try.ntmps77
                         go_wp2_with (first | ((with_reducible refine gate_dst (N := 3) rfl ?_); refine box_event ?hg (N := 3) ?hd (cs := #[.int .i64 a1_0, .int .i64 a1_1, .int .i64 a1_2]) (t := 73) ?hr ?_; (case hd => rfl); (case hg => rfl); (case hr => first | (go_simp; done) | (go_simp; rfl)); intro gb253 hg w32 hbox hb; have n0_ := Aside0.mk (below_step (bel_) hb); have n1_ := Aside0.mk (hbox); have n2_ := Aside0.mk ((by rw [hg]; exact (below_size (bel_)) : w.heap.size ≤ gb253)); have n3_ := Aside0.mk ((by rw [hg]; exact (below_size (bel_)) : w.heap.size ≤ gb253)); clear HB; have HB := n0_; have BK253 := n1_; have GW253 := n2_; have GE253 := n3_; clear n0_ n1_ n2_ n3_; clear hb hbox hg; have hcz33_0 : w32.cell? ⟨gb253, 0, none⟩ = some (.int .i64 a1_0) := (blk_cell BK253.out 0).trans rfl; have hcz33_1 : w32.cell? ⟨gb253, 1, none⟩ = some (.int .i64 a1_1) := (blk_cell BK253.out 1).trans rfl; have hcz33_2 : w32.cell? ⟨gb253, 2, none⟩ = some (.int .i64 a1_2) := (blk_cell BK253.out 2).trans rfl; have hfz33_0 := blk_frozen BK253.out 0; have hfz33_1 := blk_frozen BK253.out 1; have hfz33_2 := blk_frozen BK253.out 2; have p262 : 0 ≤ (a1_0 : Int) := od_; have q262 : a1_0 < (l0.length : Int) := od_; obtain ⟨ad262, A262_0, c262_0, e262, hx262_0, hl262_0, hi262_0⟩ := at_L1 HR0.out a1_0 p262 q262; cases e262; replace hx262_0 := (HB.out.cell (World.block_lt_of_cell? w _ hx262_0)).trans hx262_0; have HR262_0 := Aside0.mk hi262_0; have HC262_0 := Aside0.mk hl262_0; clear hi262_0 hl262_0; replace p262 := eq_true p262; replace q262 := eq_true q262; have p263 : 0 ≤ ((ji21) : Int) := od_; have q263 : (ji21) < ((rd_L1 l0 a1_0).length : Int) := od_; obtain ⟨ad263, e263, hx263_0⟩ := Kd.at_int HR262_0.out (ji21) p263 q263; cases e263; replace hx263_0 := (HB.out.cell (World.block_lt_of_cell? w _ hx263_0)).trans hx263_0; replace p263 := eq_true p263; replace q263 := eq_true q263; have p264 : 0 ≤ ((ji24) : Int) := od_; have q264 : (ji24) < (l0.length : Int) := od_; obtain ⟨ad264, A264_0, c264_0, e264, hx264_0, hl264_0, hi264_0⟩ := at_L1 HR0.out (ji24) p264 q264; obtain rfl : ad262 = ad264 := (by injection e264); replace hx264_0 := (HB.out.cell (World.block_lt_of_cell? w _ hx264_0)).trans hx264_0; have HR264_0 := Aside0.mk hi264_0; have HC264_0 := Aside0.mk hl264_0; clear hi264_0 hl264_0; replace p264 := eq_true p264; replace q264 := eq_true q264; have p265 : 0 ≤ ((ji21) : Int) := od_; have q265 : (ji21) < ((rd_L1 l0 (ji24)).length : Int) := od_; obtain ⟨ad265, e265, hx265_0⟩ := Kd.at_int HR264_0.out (ji21) p265 q265; cases e265; replace hx265_0 := (HB.out.cell (World.block_lt_of_cell? w _ hx265_0)).trans hx265_0; replace p265 := eq_true p265; replace q265 := eq_true q265; have p266 : 0 ≤ (a1_0 : Int) := od_; have q266 : a1_0 < (l0.length : Int) := od_; obtain ⟨ad266, A266_0, c266_0, e266, hx266_0, hl266_0, hi266_0⟩ := at_L1 HR0.out a1_0 p266 q266; obtain rfl : ad262 = ad266 := (by injection e266); replace hx266_0 := (HB.out.cell (World.block_lt_of_cell? w _ hx266_0)).trans hx266_0; have HR266_0 := Aside0.mk hi266_0; have HC266_0 := Aside0.mk hl266_0; clear hi266_0 hl266_0; replace p266 := eq_true p266; replace q266 := eq_true q266; have ea_ := Option.some.inj (hx262_0.symm.trans hx266_0); injection ea_ with ea_ en_ ec_; subst ea_; subst ec_; clear en_; have p267 : 0 ≤ ((ji21) : Int) := od_; have q267 : (ji21) < ((rd_L1 l0 a1_0).length : Int) := od_; obtain ⟨ad267, e267, hx267_0⟩ := Kd.at_int HR266_0.out (ji21) p267 q267; cases e267; replace hx267_0 := (HB.out.cell (World.block_lt_of_cell? w _ hx267_0)).trans hx267_0; replace p267 := eq_true p267; replace q267 := eq_true q267; have p268 : 0 ≤ (a1_0 : Int) := od_; have q268 : a1_0 < (l0.length : Int) := od_; obtain ⟨ad268, A268_0, c268_0, e268, hx268_0, hl268_0, hi268_0⟩ := at_L1 HR0.out a1_0 p268 q268; obtain rfl : ad262 = ad268 := (by injection e268); replace hx268_0 := (HB.out.cell (World.block_lt_of_cell? w _ hx268_0)).trans hx268_0; have HR268_0 := Aside0.mk hi268_0; have HC268_0 := Aside0.mk hl268_0; clear hi268_0 hl268_0; replace p268 := eq_true p268; replace q268 := eq_true q268; have ea_ := Option.some.inj (hx262_0.symm.trans hx268_0); injection ea_ with ea_ en_ ec_; subst ea_; subst ec_; clear en_; have p269 : 0 ≤ ((ji29) : Int) := od_; have q269 : (ji29) < ((rd_L1 l0 a1_0).length : Int) := od_; obtain ⟨ad269, e269, hx269_0⟩ := Kd.at_int HR268_0.out (ji29) p269 q269; cases e269; replace hx269_0 := (HB.out.cell (World.block_lt_of_cell? w _ hx269_0)).trans hx269_0; replace p269 := eq_true p269; replace q269 := eq_true q269))
                         repeat (go_quiet (fail); try go_wp2)
                         go_ret
                         exact ⟨by first | rfl | (simp [errW_none, errW_some] <;> rfl) | (simp only [← hji21, ← hji24, ← hji29]; first | rfl | (simp [errW_none, errW_some] <;> rfl)) | (simp [*, errW_none, errW_some] <;> rfl), by repeat (first | (with_reducible first | exact HB.out | apply below_alloc | apply pw_below_drewN | apply below_drew1 | refine below_set ?_ GE253.out) | exact HB.out)⟩
                       · rw [if_neg c31] at H
                         exact absurd H (by simp)
                     · rw [if_neg c30] at H
                       exact absurd H (by simp)
                   · rw [if_neg c28] at H
                     have c28b0 : (a1_2 == 2) = false := beq_eq_false_iff_ne.mpr c28
                     have c28b1 : (a1_2 != 2) = true := bne_iff_ne.mpr c28
                     obtain rfl := Option.some.inj H
                     go_enter Try.func77, Try.ntmps77
                     go_wp2_with (first | ((with_reducible refine gate_dst (N := 3) rfl ?_); refine box_event ?hg (N := 3) ?hd (cs := #[.int .i64 a1_0, .int .i64 a1_1, .int .i64 a1_2]) (t := 73) ?hr ?_; (case hd => rfl); (case hg => rfl); (case hr => first | (go_simp; done) | (go_simp; rfl)); intro gb253 hg w34 hbox hb; have n0_ := Aside0.mk (below_step (bel_) hb); have n1_ := Aside0.mk (hbox); have n2_ := Aside0.mk ((by rw [hg]; exact (below_size (bel_)) : w.heap.size ≤ gb253)); have n3_ := Aside0.mk ((by rw [hg]; exact (below_size (bel_)) : w.heap.size ≤ gb253)); clear HB; have HB := n0_; have BK253 := n1_; have GW253 := n2_; have GE253 := n3_; clear n0_ n1_ n2_ n3_; clear hb hbox hg; have hcz35_0 : w34.cell? ⟨gb253, 0, none⟩ = some (.int .i64 a1_0) := (blk_cell BK253.out 0).trans rfl; have hcz35_1 : w34.cell? ⟨gb253, 1, none⟩ = some (.int .i64 a1_1) := (blk_cell BK253.out 1).trans rfl; have hcz35_2 : w34.cell? ⟨gb253, 2, none⟩ = some (.int .i64 a1_2) := (blk_cell BK253.out 2).trans rfl; have hfz35_0 := blk_frozen BK253.out 0; have hfz35_1 := blk_frozen BK253.out 1; have hfz35_2 := blk_frozen BK253.out 2; have p262 : 0 ≤ (a1_0 : Int) := od_; have q262 : a1_0 < (l0.length : Int) := od_; obtain ⟨ad262, A262_0, c262_0, e262, hx262_0, hl262_0, hi262_0⟩ := at_L1 HR0.out a1_0 p262 q262; cases e262; replace hx262_0 := (HB.out.cell (World.block_lt_of_cell? w _ hx262_0)).trans hx262_0; have HR262_0 := Aside0.mk hi262_0; have HC262_0 := Aside0.mk hl262_0; clear hi262_0 hl262_0; replace p262 := eq_true p262; replace q262 := eq_true q262; have p263 : 0 ≤ ((ji21) : Int) := od_; have q263 : (ji21) < ((rd_L1 l0 a1_0).length : Int) := od_; obtain ⟨ad263, e263, hx263_0⟩ := Kd.at_int HR262_0.out (ji21) p263 q263; cases e263; replace hx263_0 := (HB.out.cell (World.block_lt_of_cell? w _ hx263_0)).trans hx263_0; replace p263 := eq_true p263; replace q263 := eq_true q263; have p264 : 0 ≤ ((ji24) : Int) := od_; have q264 : (ji24) < (l0.length : Int) := od_; obtain ⟨ad264, A264_0, c264_0, e264, hx264_0, hl264_0, hi264_0⟩ := at_L1 HR0.out (ji24) p264 q264; obtain rfl : ad262 = ad264 := (by injection e264); replace hx264_0 := (HB.out.cell (World.block_lt_of_cell? w _ hx264_0)).trans hx264_0; have HR264_0 := Aside0.mk hi264_0; have HC264_0 := Aside0.mk hl264_0; clear hi264_0 hl264_0; replace p264 := eq_true p264; replace q264 := eq_true q264; have p265 : 0 ≤ ((ji21) : Int) := od_; have q265 : (ji21) < ((rd_L1 l0 (ji24)).length : Int) := od_; obtain ⟨ad265, e265, hx265_0⟩ := Kd.at_int HR264_0.out (ji21) p265 q265; cases e265; replace hx265_0 := (HB.out.cell (World.block_lt_of_cell? w _ hx265_0)).trans hx265_0; replace p265 := eq_true p265; replace q265 := eq_true q265))
                     repeat (go_quiet (fail); try go_wp2)
                     go_ret
                     exact ⟨by first | rfl | (simp [errW_none, errW_some] <;> rfl) | (simp only [← hji21, ← hji24]; first | rfl | (simp [errW_none, errW_some] <;> rfl)) | (simp [*, errW_none, errW_some] <;> rfl), by repeat (first | (with_reducible first | exact HB.out | apply below_alloc | apply pw_below_drewN | apply below_drew1 | refine below_set ?_ GE253.out) | exact HB.out)⟩
                 · rw [if_neg c27] at H
                   exact absurd H (by simp)
               · rw [if_neg c26] at H
                 exact absurd H (by simp)
             · rw [if_neg c25] at H
               exact absurd H (by simp)
           · rw [if_neg c23] at H
             exact absurd H (by simp)
         · rw [if_neg c22] at H
           exact absurd H (by simp)
       · rw [if_neg c20] at H
         exact absurd H (by simp)
     · rw [if_neg c19] at H
       exact absurd H (by simp)
   · rw [if_neg c18] at H
     have c18b0 : (a1_2 == 3) = false := beq_eq_false_iff_ne.mpr c18
     have c18b1 : (a1_2 != 3) = true := bne_iff_ne.mpr c18
     by_cases c36 : 0 ≤ a1_0
     · rw [if_pos c36] at H
       have c36b0 : decide (0 ≤ a1_0) = true := decide_eq_true c36
       clear c36
       by_cases c37 : a1_0 < (l0.length : Int)
       · rw [if_pos c37] at H
         have c37b0 : decide (a1_0 < (l0.length : Int)) = true := decide_eq_true c37
         clear c37
         by_cases c38 : 0 ≤ a1_1
         · rw [if_pos c38] at H
           have c38b0 : decide (0 ≤ a1_1) = true := decide_eq_true c38
           clear c38
           by_cases c39 : a1_1 < ((rd_L1 l0 a1_0).length : Int)
           · rw [if_pos c39] at H
             have c39b0 : decide (a1_1 < ((rd_L1 l0 a1_0).length : Int)) = true := decide_eq_true c39
             clear c39
             obtain ⟨ji40, hji40⟩ : ∃ j_ : Int, (mx (wrap64 (a1_0 - 1)) 0) = j_ := ⟨_, rfl⟩
             replace H : (if 0 ≤ (ji40) then (if (ji40) < (l0.length : Int) then (if a1_1 < ((rd_L1 l0 (ji40)).length : Int) then (if a1_2 = 2 then (if 0 ≤ (mx (wrap64 (a1_1 - 1)) 0) then (if (mx (wrap64 (a1_1 - 1)) 0) < ((rd_L1 l0 a1_0).length : Int) then (some (((wrap64 ((rd (rd_L1 l0 a1_0) a1_1) - (rd (rd_L1 l0 a1_0) (mx (wrap64 (a1_1 - 1)) 0)))) == 1) == ((Int.tmod (wrap64 (a1_0 + a1_1)) 2) == 1))) else (none)) else (none)) else (some (((wrap64 ((rd (rd_L1 l0 a1_0) a1_1) - (rd (rd_L1 l0 (ji40)) a1_1))) == 1) == ((Int.tmod (wrap64 (a1_0 + a1_1)) 2) == 0)))) else (none)) else (none)) else (none)) = some r := by first | (rw [hji40] at H; exact H) | (simp only [hji40] at H ⊢; exact H)
             (try (have hji40l : 0 ≤ ji40 := by (rw [← hji40]; unfold mx; (repeat' split) <;> omega)))
             (try (have hji40m : 0 ≤ ji40 := by omega))
             have hji40_ : (if (wrap64 (a1_0 - 1)) < 0 then 0 else (wrap64 (a1_0 - 1))) = ji40 := hji40
             by_cases c41 : 0 ≤ (ji40)
             · rw [if_pos c41] at H
               have c41b0 : decide (0 ≤ (ji40)) = true := decide_eq_true c41
               clear c41
               by_cases c42 : (ji40) < (l0.length : Int)
               · rw [if_pos c42] at H
                 have c42b0 : decide ((ji40) < (l0.length : Int)) = true := decide_eq_true c42
                 clear c42
                 by_cases c43 : a1_1 < ((rd_L1 l0 (ji40)).length : Int)
                 · rw [if_pos c43] at H
                   have c43b0 : decide (a1_1 < ((rd_L1 l0 (ji40)).length : Int)) = true := decide_eq_true c43
                   clear c43
                   by_cases c44 : a1_2 = 2
                   · rw [if_pos c44] at H
                     have c44b0 : (a1_2 == 2) = true := beq_iff_eq.mpr c44
                     have c44b1 : (a1_2 != 2) = false := bne_eq_false_iff_eq.mpr c44
                     clear c44
                     obtain ⟨ji45, hji45⟩ : ∃ j_ : Int, (mx (wrap64 (a1_1 - 1)) 0) = j_ := ⟨_, rfl⟩
                     replace H : (if 0 ≤ (ji45) then (if (ji45) < ((rd_L1 l0 a1_0).length : Int) then (some (((wrap64 ((rd (rd_L1 l0 a1_0) a1_1) - (rd (rd_L1 l0 a1_0) (ji45)))) == 1) == ((Int.tmod (wrap64 (a1_0 + a1_1)) 2) == 1))) else (none)) else (none)) = some r := by first | (rw [hji45] at H; exact H) | (simp only [hji45] at H ⊢; exact H)
                     (try (have hji45l : 0 ≤ ji45 := by (rw [← hji45]; unfold mx; (repeat' split) <;> omega)))
                     (try (have hji45m : 0 ≤ ji45 := by omega))
                     have hji45_ : (if (wrap64 (a1_1 - 1)) < 0 then 0 else (wrap64 (a1_1 - 1))) = ji45 := hji45
                     by_cases c46 : 0 ≤ (ji45)
                     · rw [if_pos c46] at H
                       have c46b0 : decide (0 ≤ (ji45)) = true := decide_eq_true c46
                       clear c46
                       by_cases c47 : (ji45) < ((rd_L1 l0 a1_0).length : Int)
                       · rw [if_pos c47] at H
                         have c47b0 : decide ((ji45) < ((rd_L1 l0 a1_0).length : Int)) = true := decide_eq_true c47
                         clear c47
                         obtain rfl := Option.some.inj H
                         go_enter Try.func77, Try.ntmps77
                         go_wp2_with (first | ((with_reducible refine gate_dst (N := 3) rfl ?_); refine box_event ?hg (N := 3) ?hd (cs := #[.int .i64 a1_0, .int .i64 a1_1, .int .i64 a1_2]) (t := 73) ?hr ?_; (case hd => rfl); (case hg => rfl); (case hr => first | (go_simp; done) | (go_simp; rfl)); intro gb253 hg w48 hbox hb; have n0_ := Aside0.mk (below_step (bel_) hb); have n1_ := Aside0.mk (hbox); have n2_ := Aside0.mk ((by rw [hg]; exact (below_size (bel_)) : w.heap.size ≤ gb253)); have n3_ := Aside0.mk ((by rw [hg]; exact (below_size (bel_)) : w.heap.size ≤ gb253)); clear HB; have HB := n0_; have BK253 := n1_; have GW253 := n2_; have GE253 := n3_; clear n0_ n1_ n2_ n3_; clear hb hbox hg; have hcz49_0 : w48.cell? ⟨gb253, 0, none⟩ = some (.int .i64 a1_0) := (blk_cell BK253.out 0).trans rfl; have hcz49_1 : w48.cell? ⟨gb253, 1, none⟩ = some (.int .i64 a1_1) := (blk_cell BK253.out 1).trans rfl; have hcz49_2 : w48.cell? ⟨gb253, 2, none⟩ = some (.int .i64 a1_2) := (blk_cell BK253.out 2).trans rfl; have hfz49_0 := blk_frozen BK253.out 0; have hfz49_1 := blk_frozen BK253.out 1; have hfz49_2 := blk_frozen BK253.out 2; have p270 : 0 ≤ (a1_0 : Int) := od_; have q270 : a1_0 < (l0.length : Int) := od_; obtain ⟨ad270, A270_0, c270_0, e270, hx270_0, hl270_0, hi270_0⟩ := at_L1 HR0.out a1_0 p270 q270; cases e270; replace hx270_0 := (HB.out.cell (World.block_lt_of_cell? w _ hx270_0)).trans hx270_0; have HR270_0 := Aside0.mk hi270_0; have HC270_0 := Aside0.mk hl270_0; clear hi270_0 hl270_0; replace p270 := eq_true p270; replace q270 := eq_true q270; have p271 : 0 ≤ (a1_1 : Int) := od_; have q271 : a1_1 < ((rd_L1 l0 a1_0).length : Int) := od_; obtain ⟨ad271, e271, hx271_0⟩ := Kd.at_int HR270_0.out a1_1 p271 q271; cases e271; replace hx271_0 := (HB.out.cell (World.block_lt_of_cell? w _ hx271_0)).trans hx271_0; replace p271 := eq_true p271; replace q271 := eq_true q271; have p272 : 0 ≤ ((ji40) : Int) := od_; have q272 : (ji40) < (l0.length : Int) := od_; obtain ⟨ad272, A272_0, c272_0, e272, hx272_0, hl272_0, hi272_0⟩ := at_L1 HR0.out (ji40) p272 q272; obtain rfl : ad270 = ad272 := (by injection e272); replace hx272_0 := (HB.out.cell (World.block_lt_of_cell? w _ hx272_0)).trans hx272_0; have HR272_0 := Aside0.mk hi272_0; have HC272_0 := Aside0.mk hl272_0; clear hi272_0 hl272_0; replace p272 := eq_true p272; replace q272 := eq_true q272; have p273 : 0 ≤ (a1_1 : Int) := od_; have q273 : a1_1 < ((rd_L1 l0 (ji40)).length : Int) := od_; obtain ⟨ad273, e273, hx273_0⟩ := Kd.at_int HR272_0.out a1_1 p273 q273; cases e273; replace hx273_0 := (HB.out.cell (World.block_lt_of_cell? w _ hx273_0)).trans hx273_0; replace p273 := eq_true p273; replace q273 := eq_true q273; have p274 : 0 ≤ (a1_0 : Int) := od_; have q274 : a1_0 < (l0.length : Int) := od_; obtain ⟨ad274, A274_0, c274_0, e274, hx274_0, hl274_0, hi274_0⟩ := at_L1 HR0.out a1_0 p274 q274; obtain rfl : ad270 = ad274 := (by injection e274); replace hx274_0 := (HB.out.cell (World.block_lt_of_cell? w _ hx274_0)).trans hx274_0; have HR274_0 := Aside0.mk hi274_0; have HC274_0 := Aside0.mk hl274_0; clear hi274_0 hl274_0; replace p274 := eq_true p274; replace q274 := eq_true q274; have ea_ := Option.some.inj (hx270_0.symm.trans hx274_0); injection ea_ with ea_ en_ ec_; subst ea_; subst ec_; clear en_; have p275 : 0 ≤ (a1_1 : Int) := od_; have q275 : a1_1 < ((rd_L1 l0 a1_0).length : Int) := od_; obtain ⟨ad275, e275, hx275_0⟩ := Kd.at_int HR274_0.out a1_1 p275 q275; cases e275; replace hx275_0 := (HB.out.cell (World.block_lt_of_cell? w _ hx275_0)).trans hx275_0; replace p275 := eq_true p275; replace q275 := eq_true q275; have p276 : 0 ≤ (a1_0 : Int) := od_; have q276 : a1_0 < (l0.length : Int) := od_; obtain ⟨ad276, A276_0, c276_0, e276, hx276_0, hl276_0, hi276_0⟩ := at_L1 HR0.out a1_0 p276 q276; obtain rfl : ad270 = ad276 := (by injection e276); replace hx276_0 := (HB.out.cell (World.block_lt_of_cell? w _ hx276_0)).trans hx276_0; have HR276_0 := Aside0.mk hi276_0; have HC276_0 := Aside0.mk hl276_0; clear hi276_0 hl276_0; replace p276 := eq_true p276; replace q276 := eq_true q276; have ea_ := Option.some.inj (hx270_0.symm.trans hx276_0); injection ea_ with ea_ en_ ec_; subst ea_; subst ec_; clear en_; have p277 : 0 ≤ ((ji45) : Int) := od_; have q277 : (ji45) < ((rd_L1 l0 a1_0).length : Int) := od_; obtain ⟨ad277, e277, hx277_0⟩ := Kd.at_int HR276_0.out (ji45) p277 q277; cases e277; replace hx277_0 := (HB.out.cell (World.block_lt_of_cell? w _ hx277_0)).trans hx277_0; replace p277 := eq_true p277; replace q277 := eq_true q277))
                         repeat (go_quiet (fail); try go_wp2)
                         go_ret
                         exact ⟨by first | rfl | (simp [errW_none, errW_some] <;> rfl) | (simp only [← hji40, ← hji45]; first | rfl | (simp [errW_none, errW_some] <;> rfl)) | (simp [*, errW_none, errW_some] <;> rfl), by repeat (first | (with_reducible first | exact HB.out | apply below_alloc | apply pw_below_drewN | apply below_drew1 | refine below_set ?_ GE253.out) | exact HB.out)⟩
                       · rw [if_neg c47] at H
                         exact absurd H (by simp)
                     · rw [if_neg c46] at H
                       exact absurd H (by simp)
                   · rw [if_neg c44] at H
                     have c44b0 : (a1_2 == 2) = false := beq_eq_false_iff_ne.mpr c44
                     have c44b1 : (a1_2 != 2) = true := bne_iff_ne.mpr c44
                     obtain rfl := Option.some.inj H
                     go_enter Try.func77, Try.ntmps77
                     go_wp2_with (first | ((with_reducible refine gate_dst (N := 3) rfl ?_); refine box_event ?hg (N := 3) ?hd (cs := #[.int .i64 a1_0, .int .i64 a1_1, .int .i64 a1_2]) (t := 73) ?hr ?_; (case hd => rfl); (case hg => rfl); (case hr => first | (go_simp; done) | (go_simp; rfl)); intro gb253 hg w50 hbox hb; have n0_ := Aside0.mk (below_step (bel_) hb); have n1_ := Aside0.mk (hbox); have n2_ := Aside0.mk ((by rw [hg]; exact (below_size (bel_)) : w.heap.size ≤ gb253)); have n3_ := Aside0.mk ((by rw [hg]; exact (below_size (bel_)) : w.heap.size ≤ gb253)); clear HB; have HB := n0_; have BK253 := n1_; have GW253 := n2_; have GE253 := n3_; clear n0_ n1_ n2_ n3_; clear hb hbox hg; have hcz51_0 : w50.cell? ⟨gb253, 0, none⟩ = some (.int .i64 a1_0) := (blk_cell BK253.out 0).trans rfl; have hcz51_1 : w50.cell? ⟨gb253, 1, none⟩ = some (.int .i64 a1_1) := (blk_cell BK253.out 1).trans rfl; have hcz51_2 : w50.cell? ⟨gb253, 2, none⟩ = some (.int .i64 a1_2) := (blk_cell BK253.out 2).trans rfl; have hfz51_0 := blk_frozen BK253.out 0; have hfz51_1 := blk_frozen BK253.out 1; have hfz51_2 := blk_frozen BK253.out 2; have p270 : 0 ≤ (a1_0 : Int) := od_; have q270 : a1_0 < (l0.length : Int) := od_; obtain ⟨ad270, A270_0, c270_0, e270, hx270_0, hl270_0, hi270_0⟩ := at_L1 HR0.out a1_0 p270 q270; cases e270; replace hx270_0 := (HB.out.cell (World.block_lt_of_cell? w _ hx270_0)).trans hx270_0; have HR270_0 := Aside0.mk hi270_0; have HC270_0 := Aside0.mk hl270_0; clear hi270_0 hl270_0; replace p270 := eq_true p270; replace q270 := eq_true q270; have p271 : 0 ≤ (a1_1 : Int) := od_; have q271 : a1_1 < ((rd_L1 l0 a1_0).length : Int) := od_; obtain ⟨ad271, e271, hx271_0⟩ := Kd.at_int HR270_0.out a1_1 p271 q271; cases e271; replace hx271_0 := (HB.out.cell (World.block_lt_of_cell? w _ hx271_0)).trans hx271_0; replace p271 := eq_true p271; replace q271 := eq_true q271; have p272 : 0 ≤ ((ji40) : Int) := od_; have q272 : (ji40) < (l0.length : Int) := od_; obtain ⟨ad272, A272_0, c272_0, e272, hx272_0, hl272_0, hi272_0⟩ := at_L1 HR0.out (ji40) p272 q272; obtain rfl : ad270 = ad272 := (by injection e272); replace hx272_0 := (HB.out.cell (World.block_lt_of_cell? w _ hx272_0)).trans hx272_0; have HR272_0 := Aside0.mk hi272_0; have HC272_0 := Aside0.mk hl272_0; clear hi272_0 hl272_0; replace p272 := eq_true p272; replace q272 := eq_true q272; have p273 : 0 ≤ (a1_1 : Int) := od_; have q273 : a1_1 < ((rd_L1 l0 (ji40)).length : Int) := od_; obtain ⟨ad273, e273, hx273_0⟩ := Kd.at_int HR272_0.out a1_1 p273 q273; cases e273; replace hx273_0 := (HB.out.cell (World.block_lt_of_cell? w _ hx273_0)).trans hx273_0; replace p273 := eq_true p273; replace q273 := eq_true q273))
                     repeat (go_quiet (fail); try go_wp2)
                     go_ret
                     exact ⟨by first | rfl | (simp [errW_none, errW_some] <;> rfl) | (simp only [← hji40]; first | rfl | (simp [errW_none, errW_some] <;> rfl)) | (simp [*, errW_none, errW_some] <;> rfl), by repeat (first | (with_reducible first | exact HB.out | apply below_alloc | apply pw_below_drewN | apply below_drew1 | refine below_set ?_ GE253.out) | exact HB.out)⟩
                 · rw [if_neg c43] at H
                   exact absurd H (by simp)
               · rw [if_neg c42] at H
                 exact absurd H (by simp)
             · rw [if_neg c41] at H
               exact absurd H (by simp)
           · rw [if_neg c39] at H
             exact absurd H (by simp)
         · rw [if_neg c38] at H
           exact absurd H (by simp)
       · rw [if_neg c37] at H
         exact absurd H (by simp)
     · rw [if_neg c36] at H
       exact absurd H (by simp)

end Go.Proofs.Ytdinepghommchaa.V

/- The walk of ends' closure: a knot from which a thread leads outwards is appended. -/
namespace Go.Proofs.Ytdinepghommchaa.V
open Go.RowKit Go.Proofs.YtdinepghommchaaW.PrintWords Go.Proofs.YtdinepghommchaaW.PrintLast Go.Proofs.YtdinepghommchaaW.PrintMore
set_option linter.unusedVariables false
set_option linter.unusedSimpArgs false

theorem info73b : (Try.prog.info? 73).map (fun i => (i.zero, i.size, i.bytes)) = some (some (.agg #[(.int .i64 0), (.int .i64 0), (.int .i64 0)]), 3, 24) := by kernel_rfl

def veils_ends1.f (l : List (List Int)) (i j way : Int) (out : List S73) : Option (List S73) :=
 (veils_heights_thread.f l i j way).bind fun b => if b = true then (if out.length < 5864062014805 then some (out ++ [⟨i, j, way⟩]) else none) else some out

structure AccEnds (A : Option Addr) (n c ph pe : Nat) (w W : World) (out : List S73) : Prop where
 bh : W.heap[ph]? = some (.cells #[.slice A n c] 54 (0, 0))
 be : ∃ v, W.heap[pe]? = some (.cells #[v] 70 (0, 0)) ∧ Kd.R k73 73 W w.heap.size (fun _ => True) v out
 bel : Below w.heap.size w W

set_option maxHeartbeats 4000000 in
set_option maxRecDepth 100000 in
theorem veils_ends1.calls (l : List (List Int)) (A : Option Addr) (c ph pe : Nat) (w W : World) (i j way : Int) (out out' : List S73) (hr : Aside0 (Kd.C (Kd.slice 3 (Kd.int .i64)) w A l.length l)) (hc : Aside0 (l.length ≤ c)) (hpe : w.heap.size ≤ pe)
 (ha : AccEnds A l.length c ph pe w W out) (h : veils_ends1.f l i j way out = some out') :
 Calls Try.prog 76 #[.int .i64 i, .int .i64 j, .int .i64 way, .pointer (some ⟨ph, 0, none⟩), .pointer (some ⟨pe, 0, none⟩)] W fun e W' => e = .returned (.tuple #[]) ∧ AccEnds A l.length c ph pe w W' out' := by
 obtain ⟨v, hbe, hR⟩ := ha.be
 obtain ⟨b, hb, h⟩ := Option.bind_eq_some_iff.mp h
 have hne : ph ≠ pe := fun e => by
  have h1 := ha.bh
  rw [e, hbe] at h1
  injection h1 with h1
  injection h1 with _ h2
  cases h2
 have HX := Aside0.mk ha.bh
 have HE := Aside0.mk hbe
 have HR := Aside0.mk hR
 have HB := Aside0.mk ha.bel
 have HT := Aside0.mk hb
 have HP := Aside0.mk hpe
 have HN := Aside0.mk hne
 have ch : W.cell? ⟨ph, 0, none⟩ = some (.slice A l.length c) := (blk_cell ha.bh 0).trans rfl
 have ce : W.cell? ⟨pe, 0, none⟩ = some v := (blk_cell hbe 0).trans rfl
 have hu73 := Try.underlying73
 have lp := blk_lt ha.bh
 have le := blk_lt hbe
 clear ha hbe hR hb hpe hne
 cases b with
 | false =>
  obtain rfl := Option.some.inj h
  clear h
  go_enter Try.func76, Try.ntmps76
  go_wp2_with (go_at_call 77; refine (veils_heights_thread.calls A c l i j way false _ ?s1 hc.out HT.out).mono ?_; (case s1 => exact Kd.C_alloc (Kd.C_below hr.out HB.out) _); rintro e w1 ⟨rfl, hb1⟩; have HB1 := Aside0.mk hb1; clear hb1)
  first | go_end0 | ((try simp only [Exit.inBlock, Exit.then]); refine bodyPost_ret (results_none rfl _ _ _) rfl ?_)
  exact ⟨rfl, blk_below (blk_alloc HX.out _) HB1.out, ⟨v, blk_below (blk_alloc HE.out _) HB1.out, Kd.R_below (Kd.R_alloc HR.out _) HB1.out⟩, below_step (below_alloc HB.out _) HB1.out⟩
 | true =>
  rw [if_pos rfl] at h
  by_cases hl : out.length < 5864062014805
  · rw [if_pos hl] at h
    obtain rfl := Option.some.inj h
    have HL := Aside0.mk hl
    clear h hl
    have bk : (W.alloc (.cells #[.int .i64 i, .int .i64 j, .int .i64 way] 73)).heap[W.heap.size]? = some (.cells #[.int .i64 i, .int .i64 j, .int .i64 way] 73 (0, 0)) := blk_new _ _
    have BK := Aside0.mk bk
    clear bk
    go_enter Try.func76, Try.ntmps76
    go_wp2_with (first | (go_at_call 77; refine (veils_heights_thread.calls A c l i j way true _ ?s1 hc.out HT.out).mono ?_; (case s1 => exact Kd.C_alloc (Kd.C_below hr.out HB.out) _); rintro e w1 ⟨rfl, hb1⟩; have HB1 := Aside0.mk hb1; have ce1 := (blk_cell (blk_below (blk_alloc HE.out _) hb1) 0).trans (rfl : _ = some v); have k0 := (blk_cell (blk_below BK.out hb1) 0).trans (rfl : _ = some (Value.int .i64 i)); have k1 := (blk_cell (blk_below BK.out hb1) 1).trans (rfl : _ = some (Value.int .i64 j)); have k2 := (blk_cell (blk_below BK.out hb1) 2).trans (rfl : _ = some (Value.int .i64 way)); clear hb1) | ((with_reducible refine gate_builtin (b := .append) (xs := #[.tmp 16, .tmp 18]) rfl ?_); at_builtin; refine Kd.R_append k73 (w0 := w) w.heap.size rfl (.tmp 16) (.tmp 18) 70 73 (.agg #[(.int .i64 0), (.int .i64 0), (.int .i64 0)]) 24 rfl Try.underlying70 info73b rfl (by decide) (by omega) v out (⟨i, j, way⟩ : S73) [.int .i64 i, .int .i64 j, .int .i64 way] (fun _ => True) (fun _ => False) rfl rfl ?aP (fun _ hk => hk.elim) ?aF ?aO ?aB ?aS ?aL ?_; (case aP => exact k73_mkM _ _ _ (⟨i, j, way⟩ : S73)); (case aB => exact below_step (below_alloc HB.out _) HB1.out); (case aF => exact (fun _ _ => trivial)); (case aO => exact Kd.R_below (Kd.R_alloc HR.out _) HB1.out); (case aS => exact below_size (below_step (below_alloc HB.out _) HB1.out)); (case aL => have := HL.out; omega); intro v2 w2 ho hb hg hat; have hne := Kd.R_ne (Kd.R_below (Kd.R_alloc HR.out _) HB1.out) (blk_below (blk_alloc HE.out _) HB1.out) (by decide); have hne2 := Kd.R_ne (Kd.R_below (Kd.R_alloc HR.out _) HB1.out) (blk_below (blk_alloc HX.out _) HB1.out) (by decide); have HE2 := Aside0.mk (blk_grown (blk_below (blk_alloc HE.out _) HB1.out) hg hne); have HX2 := Aside0.mk (blk_grown (blk_below (blk_alloc HX.out _) HB1.out) hg hne2); have HO2 := Aside0.mk ho; have HB2 := Aside0.mk hb; have ce2 := (blk_cell HE2.out 0).trans (rfl : _ = some v); have fe2 := blk_frozen HE2.out 0; clear ho hb hg hat hne hne2; obtain ⟨A2, c2, e2⟩ := Kd.R_slice HO2.out; subst e2))
    first | go_end0 | ((try simp only [Exit.inBlock, Exit.then]); refine bodyPost_ret (results_none rfl _ _ _) rfl ?_)
    refine ⟨rfl, blk_far HX2.out (fun e => HN.out e) _, ⟨_, by simpa using blk_set HE2.out 0 _, Kd.R_set HO2.out HE2.out (by decide) 0 _⟩, below_set HB2.out HP.out⟩
  · rw [if_neg hl] at h
    cases h
end Go.Proofs.Ytdinepghommchaa.V

-- Written by a program of this session over the kit's printer: wip/gp.py.
namespace Go.Proofs.Ytdinepghommchaa.V
open Go.RowKit Go.Proofs.YtdinepghommchaaW.PrintWords Go.Proofs.YtdinepghommchaaW.PrintLast Go.Proofs.YtdinepghommchaaW.PrintMore
attribute [local go_sem] max2_int min2_int max_two min_two max_three min_three max_four min_four   -- for this text's walks alone
set_option linter.unusedVariables false
set_option linter.unusedSimpArgs false

/-! ### veils_heights_size: function 74 -/
def veils_heights_size.f (l0 : List (List Int)) : Option (Int) := some (wrap64 ((l0.length : Int) - 1))
set_option maxHeartbeats 8000000 in
set_option maxRecDepth 100000 in
theorem veils_heights_size.calls (A0 : Option Addr) (c0 : Nat) (l0 : List (List Int)) (r : Int) (w : World) (hr0 : Kd.C (Kd.slice 3 (Kd.int .i64)) w A0 l0.length l0) (hc0 : l0.length ≤ c0) (h : veils_heights_size.f l0 = some r) :
 Calls Try.prog 74 #[.slice A0 l0.length c0] w fun e w' => e = .returned (.int .i64 r) ∧ Drawn0 w w' := by
 have HR0 := Aside0.mk hr0
 have HC0 := Aside0.mk hc0
 clear hr0 hc0
 have H : (some (wrap64 ((l0.length : Int) - 1))) = some r := h
 clear h
 obtain rfl := Option.some.inj H
 go_enter Try.func74, Try.ntmps74
 go_wp2
 go_ret
 exact ⟨rf_, dr_⟩

end Go.Proofs.Ytdinepghommchaa.V

/- The walk of ends: the four sides, one behind the other. -/
namespace Go.Proofs.Ytdinepghommchaa.V
open Go.RowKit Go.Proofs.YtdinepghommchaaW.PrintWords Go.Proofs.YtdinepghommchaaW.PrintLast Go.Proofs.YtdinepghommchaaW.PrintMore
set_option linter.unusedVariables false
set_option linter.unusedSimpArgs false

def upL (g : Int → List S73 → Option (List S73)) (n : Int) : Nat → Int → List S73 → Option (List S73)
 | 0, _, _ => none
 | k + 1, x, o => if x ≤ n then (g x o).bind fun o' => upL g n k (wrap64 (x + 1)) o' else some o
def downL (g : Int → List S73 → Option (List S73)) : Nat → Int → List S73 → Option (List S73)
 | 0, _, _ => none
 | k + 1, x, o => if 1 ≤ x then (g x o).bind fun o' => downL g k (wrap64 (x - 1)) o' else some o
def veils_heights_ends.f (l : List (List Int)) : Option (List S73) :=
 (upL (fun x => veils_ends1.f l 1 x 0) (wrap64 ((l.length : Int) - 1)) 100 1 []).bind fun o1 =>
 (upL (fun x => veils_ends1.f l x (wrap64 ((l.length : Int) - 1)) 1) (wrap64 ((l.length : Int) - 1)) 100 1 o1).bind fun o2 =>
 (downL (fun x => veils_ends1.f l (wrap64 ((l.length : Int) - 1)) x 2) 100 (wrap64 ((l.length : Int) - 1)) o2).bind fun o3 =>
 downL (fun x => veils_ends1.f l x 1 3) 100 (wrap64 ((l.length : Int) - 1)) o3

set_option maxHeartbeats 4000000 in
set_option maxRecDepth 100000 in
theorem veils_heights_ends.calls (A0 : Option Addr) (c0 : Nat) (l0 : List (List Int)) (r : List S73) (w : World) (hr0 : Kd.C (Kd.slice 3 (Kd.int .i64)) w A0 l0.length l0) (hc0 : l0.length ≤ c0) (h : veils_heights_ends.f l0 = some r) :
 Calls Try.prog 65 #[.slice A0 l0.length c0] w fun e w' => ∃ v0_ : Value, e = .returned (v0_) ∧ Kd.R k73 73 w' w.heap.size (fun _ => True) v0_ r ∧ Below w.heap.size w w' := by
 unfold veils_heights_ends.f at h
 obtain ⟨o1, h1, h⟩ := Option.bind_eq_some_iff.mp h
 obtain ⟨o2, h2, h⟩ := Option.bind_eq_some_iff.mp h
 obtain ⟨o3, h3, h4⟩ := Option.bind_eq_some_iff.mp h
 have hsz : veils_heights_size.f l0 = some (wrap64 ((l0.length : Int) - 1)) := rfl
 generalize wrap64 ((l0.length : Int) - 1) = n at h1 h2 h3 h4 hsz
 have H1 := Aside0.mk h1
 have H2 := Aside0.mk h2
 have H3 := Aside0.mk h3
 have H4 := Aside0.mk h4
 have HZ := Aside0.mk hsz
 have HR := Aside0.mk hr0
 have HC := Aside0.mk hc0
 clear h h1 h2 h3 h4 hsz hr0 hc0
 have hmf : ∀ (fn : Fn) (first cap : Array Value) (w : World), (Instr.makeFunc fn first cap).run Try.prog w = .ok (.func fn first cap) w := fun _ _ _ _ => rfl
 have B1 := Aside0.mk (blk_new w (.cells #[.slice A0 l0.length c0] 54))
 have hcell := (blk_cell B1.out 0).trans (rfl : _ = some (Value.slice A0 l0.length c0))
 go_enter Try.func65, Try.ntmps65
 go_wp2_with (go_at_call 74; refine (veils_heights_size.calls A0 c0 l0 n _ ?s1 HC.out HZ.out).mono ?_; (case s1 => exact Kd.C_below HR.out (below_alloc (Below.refl _ _) _)); rintro e w1 ⟨rfl, ⟨nd, rfl⟩⟩)
 go_loopg [6] 100 (fun kq vx w' => ∃ (x : Int) (o : List S73), vx = .int .i64 x ∧ Aside0 (upL (fun x => veils_ends1.f l0 1 x 0) n kq x o = some o1) ∧ Aside0 (AccEnds A0 l0.length c0 w.heap.size (w.heap.size + 1) w w' o))
 case atStart => exact ⟨1, [], rfl, H1, ⟨by simpa using ⟨blk_alloc B1.out _, ⟨_, (by simpa using blk_new ((w.alloc (.cells #[.slice A0 l0.length c0] 54)).drewN nd) (.cells #[.slice none 0 0] 70)), Kd.R_nil _ _ _ _ _⟩, below_alloc (pw_below_drewN (below_alloc (Below.refl _ _) _) nd) _⟩⟩⟩
 case round =>
  clear H1
  obtain ⟨x, o, rfl, HL, HA⟩ := hrel
  cases gk with
  | zero => exact absurd HL.out (by simp [upL])
  | succ k1 =>
   have H := HL.out
   clear HL
   simp only [upL] at H
   by_cases c1 : x ≤ n
   · rw [if_pos c1] at H
     have d1 : decide (x ≤ n) = true := decide_eq_true c1
     obtain ⟨o', ho, H⟩ := Option.bind_eq_some_iff.mp H
     have HO := Aside0.mk ho
     have HN := Aside0.mk H
     clear c1 ho H
     go_wp2_with (go_at_call 76; refine (veils_ends1.calls l0 A0 c0 w.heap.size (w.heap.size + 1) w _ _ _ _ o o' HR HC (by omega) HA.out HO.out).mono ?_; rintro e w2 ⟨rfl, ha2⟩; have HA2 := Aside0.mk ha2; clear ha2)
     go_roundg k1
     case measure => omega
     case rel => exact ⟨wrap64 (x + 1), o', rfl, HN, HA2⟩
   · rw [if_neg c1] at H
     have d1 : decide (x ≤ n) = false := decide_eq_false c1
     obtain rfl := Option.some.inj H
     clear c1 H
     go_wp2
     go_loopg [7] 100 (fun kq vx w' => ∃ (x : Int) (o : List S73), vx = .int .i64 x ∧ Aside0 (upL (fun x => veils_ends1.f l0 x n 1) n kq x o = some o2) ∧ Aside0 (AccEnds A0 l0.length c0 w.heap.size (w.heap.size + 1) w w' o))
     case atStart => exact ⟨1, _, rfl, H2, HA⟩
     case round =>
      clear H2
      obtain ⟨x, o, rfl, HL, HA⟩ := hrel
      cases gk with
      | zero => exact absurd HL.out (by simp [upL])
      | succ k1 =>
       have H := HL.out
       clear HL
       simp only [upL] at H
       by_cases c1 : x ≤ n
       · rw [if_pos c1] at H
         have d1 : decide (x ≤ n) = true := decide_eq_true c1
         obtain ⟨o', ho, H⟩ := Option.bind_eq_some_iff.mp H
         have HO := Aside0.mk ho
         have HN := Aside0.mk H
         clear c1 ho H
         go_wp2_with (go_at_call 76; refine (veils_ends1.calls l0 A0 c0 w.heap.size (w.heap.size + 1) w _ _ _ _ o o' HR HC (by omega) HA.out HO.out).mono ?_; rintro e w2 ⟨rfl, ha2⟩; have HA2 := Aside0.mk ha2; clear ha2)
         go_roundg k1
         case measure => omega
         case rel => exact ⟨wrap64 (x + 1), o', rfl, HN, HA2⟩
       · rw [if_neg c1] at H
         have d1 : decide (x ≤ n) = false := decide_eq_false c1
         obtain rfl := Option.some.inj H
         clear c1 H
         go_wp2
         go_loopg [8] 100 (fun kq vx w' => ∃ (x : Int) (o : List S73), vx = .int .i64 x ∧ Aside0 (downL (fun x => veils_ends1.f l0 n x 2) kq x o = some o3) ∧ Aside0 (AccEnds A0 l0.length c0 w.heap.size (w.heap.size + 1) w w' o))
         case atStart => exact ⟨n, _, rfl, H3, HA⟩
         case round =>
          clear H3
          obtain ⟨x, o, rfl, HL, HA⟩ := hrel
          cases gk with
          | zero => exact absurd HL.out (by simp [downL])
          | succ k1 =>
           have H := HL.out
           clear HL
           simp only [downL] at H
           by_cases c1 : 1 ≤ x
           · rw [if_pos c1] at H
             have d1 : decide (1 ≤ x) = true := decide_eq_true c1
             obtain ⟨o', ho, H⟩ := Option.bind_eq_some_iff.mp H
             have HO := Aside0.mk ho
             have HN := Aside0.mk H
             clear c1 ho H
             go_wp2_with (go_at_call 76; refine (veils_ends1.calls l0 A0 c0 w.heap.size (w.heap.size + 1) w _ _ _ _ o o' HR HC (by omega) HA.out HO.out).mono ?_; rintro e w2 ⟨rfl, ha2⟩; have HA2 := Aside0.mk ha2; clear ha2)
             go_roundg k1
             case measure => omega
             case rel => exact ⟨wrap64 (x - 1), o', rfl, HN, HA2⟩
           · rw [if_neg c1] at H
             have d1 : decide (1 ≤ x) = false := decide_eq_false c1
             obtain rfl := Option.some.inj H
             clear c1 H
             go_wp2
             go_loopg [9] 100 (fun kq vx w' => ∃ (x : Int) (o : List S73), vx = .int .i64 x ∧ Aside0 (downL (fun x => veils_ends1.f l0 x 1 3) kq x o = some r) ∧ Aside0 (AccEnds A0 l0.length c0 w.heap.size (w.heap.size + 1) w w' o))
             case atStart => exact ⟨n, _, rfl, H4, HA⟩
             case round =>
              clear H4
              obtain ⟨x, o, rfl, HL, HA⟩ := hrel
              cases gk with
              | zero => exact absurd HL.out (by simp [downL])
              | succ k1 =>
               have H := HL.out
               clear HL
               simp only [downL] at H
               by_cases c1 : 1 ≤ x
               · rw [if_pos c1] at H
                 have d1 : decide (1 ≤ x) = true := decide_eq_true c1
                 obtain ⟨o', ho, H⟩ := Option.bind_eq_some_iff.mp H
                 have HO := Aside0.mk ho
                 have HN := Aside0.mk H
                 clear c1 ho H
                 go_wp2_with (go_at_call 76; refine (veils_ends1.calls l0 A0 c0 w.heap.size (w.heap.size + 1) w _ _ _ _ o o' HR HC (by omega) HA.out HO.out).mono ?_; rintro e w2 ⟨rfl, ha2⟩; have HA2 := Aside0.mk ha2; clear ha2)
                 go_roundg k1
                 case measure => omega
                 case rel => exact ⟨wrap64 (x - 1), o', rfl, HN, HA2⟩
               · rw [if_neg c1] at H
                 have d1 : decide (1 ≤ x) = false := decide_eq_false c1
                 obtain rfl := Option.some.inj H
                 clear c1 H
                 obtain ⟨v, hv, hRv⟩ := HA.out.be
                 have cv := (blk_cell hv 0).trans (rfl : _ = some v)
                 have HV := Aside0.mk hRv
                 clear hv hRv
                 go_wp2
                 go_ret
                 exact ⟨v, rfl, HV.out, HA.out.bel⟩
end Go.Proofs.Ytdinepghommchaa.V

-- Written by a program of this session over the kit's printer: wip/gp.py.
namespace Go.Proofs.Ytdinepghommchaa.V
open Go.RowKit Go.Proofs.YtdinepghommchaaW.PrintWords Go.Proofs.YtdinepghommchaaW.PrintLast Go.Proofs.YtdinepghommchaaW.PrintMore
attribute [local go_sem] max2_int min2_int max_two min_two max_three min_three max_four min_four   -- for this text's walks alone
set_option linter.unusedVariables false
set_option linter.unusedSimpArgs false

theorem eqA73 (d : Nat) (w : World) (x0 y0 : Int) (x1 y1 : Int) (x2 y2 : Int) :
 (Op.equalIn (d + 2) 73 (.agg #[.int .i64 x0, .int .i64 x1, .int .i64 x2]) (.agg #[.int .i64 y0, .int .i64 y1, .int .i64 y2])).run Try.prog w = .ok (x0 == y0 && (x1 == y1 && (x2 == y2))) w := by
 refine eqA_of Try.underlying73 (by kernel_rfl) ?_
 refine eqf_cons (by rfl) (by go_simp; rfl) (by go_simp; rfl) (by go_simp) ?_
 refine eqf_cons (by rfl) (by go_simp; rfl) (by go_simp; rfl) (by go_simp) ?_
 exact eqf_last (by rfl) (by go_simp; rfl) (by go_simp; rfl) (by go_simp)
end Go.Proofs.Ytdinepghommchaa.V

-- Written by a program of this session over the kit's printer: wip/gp.py.
namespace Go.Proofs.Ytdinepghommchaa.V
open Go.RowKit Go.Proofs.YtdinepghommchaaW.PrintWords Go.Proofs.YtdinepghommchaaW.PrintLast Go.Proofs.YtdinepghommchaaW.PrintMore
attribute [local go_sem] max2_int min2_int max_two min_two max_three min_three max_four min_four   -- for this text's walks alone
set_option linter.unusedVariables false
set_option linter.unusedSimpArgs false

attribute [local go_sem high] eqA73
/-! ### veils_knot: function 66 -/
def veils_knot.l0 : Nat → List (S73) → Int → Int → Int → Int → Int → Option (Int)
 | 0, _, _, _, _, _, _ => none
 | k + 1, x0, x7, x8, x252000, x252001, x252002 => if x8 < x7 then (if 0 ≤ x8 then (if x8 < (x0.length : Int) then (if (x252000 == ((rd_T73 x0 x8).f0) && (x252001 == ((rd_T73 x0 x8).f1) && (x252002 == ((rd_T73 x0 x8).f2)))) = true then (some x8) else (veils_knot.l0 k x0 x7 (wrap64 (x8 + 1)) x252000 x252001 x252002)) else (none)) else (none)) else (some (-1))
def veils_knot.f (k : Nat) (l0 : List (S73)) (a1_0 : Int) (a1_1 : Int) (a1_2 : Int) : Option (Int) := veils_knot.l0 k l0 (l0.length : Int) 0 a1_0 a1_1 a1_2
theorem veils_knot.mono_l : ∀ k, (∀ y0 y1 y2 y3 y4 y5, LeO (veils_knot.l0 k y0 y1 y2 y3 y4 y5) (veils_knot.l0 (k + 1) y0 y1 y2 y3 y4 y5))
 | 0 => fun _ _ _ _ _ _ r h => by simp [veils_knot.l0] at h
 | k + 1 => by
  have ih0 := veils_knot.mono_l k
  · intro y0 y1 y2 y3 y4 y5
    unfold veils_knot.l0
    repeat' first
    | (with_reducible exact ih0 _ _ _ _ _ _)
    | (with_reducible exact LeO.refl _)
    | (with_reducible exact LeO.none _)
    | (with_reducible refine LeO.ite ?_ ?_)
    | (with_reducible refine LeO.bind ?_ (fun _ => ?_))
    | exact ih0 _ _ _ _ _ _
    | exact LeO.none _
    | refine LeO.ite ?_ ?_
    | refine LeO.bind ?_ (fun _ => ?_)
theorem veils_knot.mono : ∀ a0 a1 a2 a3 k, LeO (veils_knot.f k a0 a1 a2 a3) (veils_knot.f (k + 1) a0 a1 a2 a3) := by
 intro a0 a1 a2 a3 k
 have ih0 := veils_knot.mono_l k
 unfold veils_knot.f
 repeat' first
  | (with_reducible exact ih0 _ _ _ _ _ _)
  | (with_reducible exact LeO.refl _)
  | (with_reducible exact LeO.none _)
  | (with_reducible refine LeO.ite ?_ ?_)
  | (with_reducible refine LeO.bind ?_ (fun _ => ?_))
  | exact ih0 _ _ _ _ _ _
  | exact LeO.none _
  | refine LeO.ite ?_ ?_
  | refine LeO.bind ?_ (fun _ => ?_)
set_option maxHeartbeats 8000000 in
set_option maxRecDepth 100000 in
theorem veils_knot.calls (k : Nat) (A0 : Option Addr) (c0 : Nat) (l0 : List (S73)) (a1_0 : Int) (a1_1 : Int) (a1_2 : Int) (r : Int) (w : World) (hr0 : Kd.C k73 w A0 l0.length l0) (hc0 : l0.length ≤ c0) (h : veils_knot.f k l0 a1_0 a1_1 a1_2 = some r) :
 Calls Try.prog 66 #[.slice A0 l0.length c0, .agg #[.int .i64 a1_0, .int .i64 a1_1, .int .i64 a1_2]] w fun e w' => e = .returned (.int .i64 r) ∧ Below w.heap.size w w' := by
 have hu73 := Try.underlying73
 have HR0 := Aside0.mk hr0
 have HC0 := Aside0.mk hc0
 clear hr0 hc0
 have HB := Aside0.mk (Below.refl w.heap.size w)
 have H : (veils_knot.l0 k l0 (l0.length : Int) 0 a1_0 a1_1 a1_2) = some r := h
 clear h
 have H' := Aside0.mk H
 clear H
 go_enter Try.func66, Try.ntmps66
 go_wp2_with (first | ((with_reducible refine gate_dst (N := 3) rfl ?_); refine box_event ?hg (N := 3) ?hd (cs := #[.int .i64 a1_0, .int .i64 a1_1, .int .i64 a1_2]) (t := 73) ?hr ?_; (case hd => rfl); (case hg => rfl); (case hr => first | (go_simp; done) | (go_simp; rfl)); intro gb251 hg w3 hbox hb; have n0_ := Aside0.mk (below_step (bel_) hb); have n1_ := Aside0.mk (hbox); have n2_ := Aside0.mk ((by rw [hg]; exact (below_size (bel_)) : w.heap.size ≤ gb251)); have n3_ := Aside0.mk ((by rw [hg]; exact (below_size (bel_)) : w.heap.size ≤ gb251)); clear HB; have HB := n0_; have BK251 := n1_; have GW251 := n2_; have GE251 := n3_; clear n0_ n1_ n2_ n3_; clear hb hbox hg))
 repeat (go_quiet (fail); try go_wp2)
 go_loopg [8] k (fun kq v8 w' => ∃ (x8_1 : Int), v8 = .int .i64 x8_1 ∧ Aside0 (veils_knot.l0 kq l0 (l0.length : Int) x8_1 a1_0 a1_1 a1_2 = some r) ∧ Aside0 (kq ≤ k) ∧ Aside0 (w'.heap[gb251]? = some (.cells #[.int .i64 a1_0, .int .i64 a1_1, .int .i64 a1_2] 73 (0, 0))) ∧ Aside0 (Below w.heap.size w w'))
 case atStart => exact ⟨(0), rf_, H', ⟨Nat.le_refl _⟩, ⟨nB_ BK251.out⟩, ⟨by repeat (first | (with_reducible first | exact HB.out | apply below_alloc | apply pw_below_drewN | apply below_drew1 | refine below_set ?_ GE251.out) | exact HB.out)⟩⟩
 case round =>
  clear H'
  try clear p2
  obtain ⟨x8_1, rfl, HA, HK1, BK251, HB⟩ := hrel
  cases gk with
  | zero => exact absurd HA.out (by simp [veils_knot.l0])
  | succ k1 =>
    have H := HA.out
    clear HA
    simp only [veils_knot.l0] at H
    by_cases c4 : x8_1 < (l0.length : Int)
    · rw [if_pos c4] at H
      have c4b0 : decide (x8_1 < (l0.length : Int)) = true := decide_eq_true c4
      clear c4
      by_cases c5 : 0 ≤ x8_1
      · rw [if_pos c5] at H
        have c5b0 : decide (0 ≤ x8_1) = true := decide_eq_true c5
        clear c5
        by_cases c6 : x8_1 < (l0.length : Int)
        · rw [if_pos c6] at H
          have c6b0 : decide (x8_1 < (l0.length : Int)) = true := decide_eq_true c6
          clear c6
          by_cases c7 : (a1_0 == ((rd_T73 l0 x8_1).f0) && (a1_1 == ((rd_T73 l0 x8_1).f1) && (a1_2 == ((rd_T73 l0 x8_1).f2)))) = true
          · rw [if_pos c7] at H
            have c7b0 : (a1_0 == ((rd_T73 l0 x8_1).f0) && (a1_1 == ((rd_T73 l0 x8_1).f1) && (a1_2 == ((rd_T73 l0 x8_1).f2)))) = true := c7
            (try (have c7b1 : decide (a1_0 = ((rd_T73 l0 x8_1).f0) && (a1_1 == ((rd_T73 l0 x8_1).f1) && (a1_2 == ((rd_T73 l0 x8_1).f2)))) = true := by simpa using c7))
            (try (have c7b2 : (a1_0 == ((rd_T73 l0 x8_1).f0) && (a1_1 == ((rd_T73 l0 x8_1).f1) && (a1_2 == ((rd_T73 l0 x8_1).f2)))) = true := by simpa using c7))
            clear c7
            obtain rfl := Option.some.inj H
            have hcz8_0 : wr.cell? ⟨gb251, 0, none⟩ = some (.int .i64 a1_0) := (blk_cell BK251.out 0).trans rfl
            have hcz8_1 : wr.cell? ⟨gb251, 1, none⟩ = some (.int .i64 a1_1) := (blk_cell BK251.out 1).trans rfl
            have hcz8_2 : wr.cell? ⟨gb251, 2, none⟩ = some (.int .i64 a1_2) := (blk_cell BK251.out 2).trans rfl
            have hfz8_0 := blk_frozen BK251.out 0
            have hfz8_1 := blk_frozen BK251.out 1
            have hfz8_2 := blk_frozen BK251.out 2
            have p252 : 0 ≤ (x8_1 : Int) := od_
            have q252 : x8_1 < (l0.length : Int) := od_
            obtain ⟨ad252, e252, hx252_0, hx252_1, hx252_2⟩ := at_T73 HR0.out x8_1 p252 q252
            cases e252
            replace hx252_0 := (HB.out.cell (World.block_lt_of_cell? w _ hx252_0)).trans hx252_0
            replace hx252_1 := (HB.out.cell (World.block_lt_of_cell? w _ hx252_1)).trans hx252_1
            replace hx252_2 := (HB.out.cell (World.block_lt_of_cell? w _ hx252_2)).trans hx252_2
            replace p252 := eq_true p252
            replace q252 := eq_true q252
            go_wp2
            repeat (go_quiet (fail); try go_wp2)
            go_ret
            exact ⟨er_, by repeat (first | (with_reducible first | exact HB.out | apply below_alloc | apply pw_below_drewN | apply below_drew1 | refine below_set ?_ GE251.out) | exact HB.out)⟩
          · rw [if_neg c7] at H
            have c7b0 : (a1_0 == ((rd_T73 l0 x8_1).f0) && (a1_1 == ((rd_T73 l0 x8_1).f1) && (a1_2 == ((rd_T73 l0 x8_1).f2)))) = false := by simpa using c7
            (try (have c7b1 : decide (a1_0 = ((rd_T73 l0 x8_1).f0) && (a1_1 == ((rd_T73 l0 x8_1).f1) && (a1_2 == ((rd_T73 l0 x8_1).f2)))) = false := by simpa using c7))
            (try (have c7b2 : (a1_0 == ((rd_T73 l0 x8_1).f0) && (a1_1 == ((rd_T73 l0 x8_1).f1) && (a1_2 == ((rd_T73 l0 x8_1).f2)))) = false := by simpa using c7))
            (try (have c7b3 : ¬ (a1_0 = ((rd_T73 l0 x8_1).f0) && (a1_1 == ((rd_T73 l0 x8_1).f1) && (a1_2 == ((rd_T73 l0 x8_1).f2)))) := by simpa using c7))
            clear c7
            have H' := Aside0.mk H
            clear H
            have hcz9_0 : wr.cell? ⟨gb251, 0, none⟩ = some (.int .i64 a1_0) := (blk_cell BK251.out 0).trans rfl
            have hcz9_1 : wr.cell? ⟨gb251, 1, none⟩ = some (.int .i64 a1_1) := (blk_cell BK251.out 1).trans rfl
            have hcz9_2 : wr.cell? ⟨gb251, 2, none⟩ = some (.int .i64 a1_2) := (blk_cell BK251.out 2).trans rfl
            have hfz9_0 := blk_frozen BK251.out 0
            have hfz9_1 := blk_frozen BK251.out 1
            have hfz9_2 := blk_frozen BK251.out 2
            have p252 : 0 ≤ (x8_1 : Int) := od_
            have q252 : x8_1 < (l0.length : Int) := od_
            obtain ⟨ad252, e252, hx252_0, hx252_1, hx252_2⟩ := at_T73 HR0.out x8_1 p252 q252
            cases e252
            replace hx252_0 := (HB.out.cell (World.block_lt_of_cell? w _ hx252_0)).trans hx252_0
            replace hx252_1 := (HB.out.cell (World.block_lt_of_cell? w _ hx252_1)).trans hx252_1
            replace hx252_2 := (HB.out.cell (World.block_lt_of_cell? w _ hx252_2)).trans hx252_2
            replace p252 := eq_true p252
            replace q252 := eq_true q252
            go_wp2
            repeat (go_quiet (fail); try go_wp2)
            go_roundg k1
            case measure => have := HK1.out; omega
            case rel => exact ⟨(wrap64 (x8_1 + 1)), rf_, H', ⟨by have := HK1.out; omega⟩, ⟨nB_ BK251.out⟩, ⟨by repeat (first | (with_reducible first | exact HB.out | apply below_alloc | apply pw_below_drewN | apply below_drew1 | refine below_set ?_ GE251.out) | exact HB.out)⟩⟩
        · rw [if_neg c6] at H
          exact absurd H (by simp)
      · rw [if_neg c5] at H
        exact absurd H (by simp)
    · rw [if_neg c4] at H
      have c4b0 : decide (x8_1 < (l0.length : Int)) = false := decide_eq_false c4
      clear c4
      obtain rfl := Option.some.inj H
      go_wp2
      repeat (go_quiet (fail); try go_wp2)
      go_ret
      exact ⟨er_, by repeat (first | (with_reducible first | exact HB.out | apply below_alloc | apply pw_below_drewN | apply below_drew1 | refine below_set ?_ GE251.out) | exact HB.out)⟩

end Go.Proofs.Ytdinepghommchaa.V

-- Written by a program of this session over the kit's printer: wip/gp.py.
namespace Go.Proofs.Ytdinepghommchaa.V
open Go.RowKit Go.Proofs.YtdinepghommchaaW.PrintWords Go.Proofs.YtdinepghommchaaW.PrintLast Go.Proofs.YtdinepghommchaaW.PrintMore
attribute [local go_sem] max2_int min2_int max_two min_two max_three min_three max_four min_four   -- for this text's walks alone
set_option linter.unusedVariables false
set_option linter.unusedSimpArgs false

/-! ### veils_knot_step: function 78 -/
def veils_knot_step.f (a0_0 : Int) (a0_1 : Int) (a0_2 : Int) : Option (Int × Int × Int) := if a0_2 = 0 then (some (wrap64 (a0_0 - 1), a0_1, Int.tmod (wrap64 (a0_2 + 2)) 4)) else (if a0_2 = 1 then (some (a0_0, wrap64 (a0_1 + 1), Int.tmod (wrap64 (a0_2 + 2)) 4)) else (if a0_2 = 2 then (some (wrap64 (a0_0 + 1), a0_1, Int.tmod (wrap64 (a0_2 + 2)) 4)) else (some (a0_0, wrap64 (a0_1 - 1), Int.tmod (wrap64 (a0_2 + 2)) 4))))
set_option maxHeartbeats 8000000 in
set_option maxRecDepth 100000 in
theorem veils_knot_step.calls (a0_0 : Int) (a0_1 : Int) (a0_2 : Int) (r1 : Int) (r2 : Int) (r3 : Int) (w : World) (h : veils_knot_step.f a0_0 a0_1 a0_2 = some (r1, r2, r3)) :
 Calls Try.prog 78 #[.agg #[.int .i64 a0_0, .int .i64 a0_1, .int .i64 a0_2]] w fun e w' => e = .returned (.agg #[.int .i64 r1, .int .i64 r2, .int .i64 r3]) ∧ Below w.heap.size w w' := by
 have hu73 := Try.underlying73
 have HB := Aside0.mk (Below.refl w.heap.size w)
 have H : (if a0_2 = 0 then (some (wrap64 (a0_0 - 1), a0_1, Int.tmod (wrap64 (a0_2 + 2)) 4)) else (if a0_2 = 1 then (some (a0_0, wrap64 (a0_1 + 1), Int.tmod (wrap64 (a0_2 + 2)) 4)) else (if a0_2 = 2 then (some (wrap64 (a0_0 + 1), a0_1, Int.tmod (wrap64 (a0_2 + 2)) 4)) else (some (a0_0, wrap64 (a0_1 - 1), Int.tmod (wrap64 (a0_2 + 2)) 4))))) = some (r1, r2, r3) := h
 clear h
 by_cases c2 : a0_2 = 0
 · rw [if_pos c2] at H
   have c2b0 : (a0_2 == 0) = true := beq_iff_eq.mpr c2
   have c2b1 : (a0_2 != 0) = false := bne_eq_false_iff_eq.mpr c2
   clear c2
   simp only [Option.some.injEq, Prod.mk.injEq] at H
   obtain ⟨rfl, rfl, rfl⟩ := H
   go_enter Try.func78, Try.ntmps78
   go_wp2_with (first | ((with_reducible refine gate_dst (N := 1) rfl ?_); refine box_event ?hg (N := 1) ?hd (cs := #[.int .i64 a0_0, .int .i64 a0_1, .int .i64 a0_2]) (t := 73) ?hr ?_; (case hd => rfl); (case hg => rfl); (case hr => first | (go_simp; done) | (go_simp; rfl)); intro gb278 hg w3 hbox hb; have n0_ := Aside0.mk (below_step (bel_) hb); have n1_ := Aside0.mk (hbox); have n2_ := Aside0.mk ((by rw [hg]; exact (below_size (bel_)) : w.heap.size ≤ gb278)); have n3_ := Aside0.mk ((by rw [hg]; exact (below_size (bel_)) : w.heap.size ≤ gb278)); clear HB; have HB := n0_; have BK278 := n1_; have GW278 := n2_; have GE278 := n3_; clear n0_ n1_ n2_ n3_; clear hb hbox hg) | ((with_reducible refine gate_dst (N := 2) rfl ?_); refine box_event ?hg (N := 2) ?hd (cs := #[.int .i64 0, .int .i64 0, .int .i64 0]) (t := 73) ?hr ?_; (case hd => rfl); (case hg => rfl); (case hr => first | (go_simp; done) | (go_simp; rfl)); intro gb279 hg w4 hbox hb; have n0_ := Aside0.mk (blk_below (g := gb278) (o := .cells #[.int .i64 a0_0, .int .i64 a0_1, .int .i64 a0_2] 73 (0, 0)) (nB_ BK278.out) hb); have n1_ := Aside0.mk (below_step (belH_) hb); have n2_ := Aside0.mk (hbox); have n3_ := Aside0.mk ((by rw [hg]; exact (below_size (belH_)) : w.heap.size ≤ gb279)); have n4_ := Aside0.mk ((by rw [hg]; exact (below_size (belH_)) : w.heap.size ≤ gb279)); have n5_ := Aside0.mk ((by rw [hg]; exact Nat.ne_of_lt (blk_lt (g := gb278) (o := .cells #[.int .i64 a0_0, .int .i64 a0_1, .int .i64 a0_2] 73 (0, 0)) (nB_ BK278.out)) : gb278 ≠ gb279)); have n6_ := Aside0.mk ((by rw [hg]; exact Nat.ne_of_gt (blk_lt (g := gb278) (o := .cells #[.int .i64 a0_0, .int .i64 a0_1, .int .i64 a0_2] 73 (0, 0)) (nB_ BK278.out)) : gb279 ≠ gb278)); clear BK278; clear HB; have BK278 := n0_; have HB := n1_; have BK279 := n2_; have GW279 := n3_; have GE279 := n4_; have NB278_279 := n5_; have NB279_278 := n6_; clear n0_ n1_ n2_ n3_ n4_ n5_ n6_; clear hb hbox hg; have hnb5 := NB278_279.out; have hnc5 := NB279_278.out; have hcz6_0 : w4.cell? ⟨gb278, 0, none⟩ = some (.int .i64 a0_0) := (blk_cell BK278.out 0).trans rfl; have hcz6_1 : w4.cell? ⟨gb278, 1, none⟩ = some (.int .i64 a0_1) := (blk_cell BK278.out 1).trans rfl; have hcz6_2 : w4.cell? ⟨gb278, 2, none⟩ = some (.int .i64 a0_2) := (blk_cell BK278.out 2).trans rfl; have hfz6_0 := blk_frozen BK278.out 0; have hfz6_1 := blk_frozen BK278.out 1; have hfz6_2 := blk_frozen BK278.out 2; have hcz7_0 : w4.cell? ⟨gb279, 0, none⟩ = some (.int .i64 0) := (blk_cell BK279.out 0).trans rfl; have hcz7_1 : w4.cell? ⟨gb279, 1, none⟩ = some (.int .i64 0) := (blk_cell BK279.out 1).trans rfl; have hcz7_2 : w4.cell? ⟨gb279, 2, none⟩ = some (.int .i64 0) := (blk_cell BK279.out 2).trans rfl; have hfz7_0 := blk_frozen BK279.out 0; have hfz7_1 := blk_frozen BK279.out 1; have hfz7_2 := blk_frozen BK279.out 2))
   refine bodyPost_ret (results_cell_row rfl _ _ gb279 73 #[.int .i64 (wrap64 (a0_0 - 1)), .int .i64 a0_1, .int .i64 (Int.tmod (wrap64 (a0_2 + 2)) 4)] (0, 0) _ rfl (by (with_reducible repeat (first | refine blk_drewN ?_ _ | refine blk_drew ?_ | refine blk_alloc ?_ _)); refine blk_put (cs := #[.int .i64 (wrap64 (a0_0 - 1)), .int .i64 a0_1, .int .i64 0]) ?_ 2 _ rfl; (with_reducible repeat (first | refine blk_drewN ?_ _ | refine blk_drew ?_ | refine blk_alloc ?_ _)); refine blk_put (cs := #[.int .i64 (wrap64 (a0_0 - 1)), .int .i64 0, .int .i64 0]) ?_ 1 _ rfl; (with_reducible repeat (first | refine blk_drewN ?_ _ | refine blk_drew ?_ | refine blk_alloc ?_ _)); refine blk_put (cs := #[.int .i64 0, .int .i64 0, .int .i64 0]) ?_ 0 _ rfl; (with_reducible repeat (first | refine blk_drewN ?_ _ | refine blk_drew ?_ | refine blk_alloc ?_ _)); refine blk_far ?_ NB279_278.out _; (with_reducible repeat (first | refine blk_drewN ?_ _ | refine blk_drew ?_ | refine blk_alloc ?_ _)); refine blk_far ?_ NB279_278.out _; (with_reducible repeat (first | refine blk_drewN ?_ _ | refine blk_drew ?_ | refine blk_alloc ?_ _)); exact BK279.out) Try.underlying73 rfl (by kernel_rfl)) rfl ?_
   exact ⟨er_, by repeat (first | (with_reducible first | exact HB.out | apply below_alloc | apply pw_below_drewN | apply below_drew1 | refine below_set ?_ GE278.out | refine below_set ?_ GE279.out) | exact HB.out)⟩
 · rw [if_neg c2] at H
   have c2b0 : (a0_2 == 0) = false := beq_eq_false_iff_ne.mpr c2
   have c2b1 : (a0_2 != 0) = true := bne_iff_ne.mpr c2
   by_cases c8 : a0_2 = 1
   · rw [if_pos c8] at H
     have c8b0 : (a0_2 == 1) = true := beq_iff_eq.mpr c8
     have c8b1 : (a0_2 != 1) = false := bne_eq_false_iff_eq.mpr c8
     clear c8
     simp only [Option.some.injEq, Prod.mk.injEq] at H
     obtain ⟨rfl, rfl, rfl⟩ := H
     go_enter Try.func78, Try.ntmps78
     go_wp2_with (first | ((with_reducible refine gate_dst (N := 1) rfl ?_); refine box_event ?hg (N := 1) ?hd (cs := #[.int .i64 a0_0, .int .i64 a0_1, .int .i64 a0_2]) (t := 73) ?hr ?_; (case hd => rfl); (case hg => rfl); (case hr => first | (go_simp; done) | (go_simp; rfl)); intro gb278 hg w9 hbox hb; have n0_ := Aside0.mk (below_step (bel_) hb); have n1_ := Aside0.mk (hbox); have n2_ := Aside0.mk ((by rw [hg]; exact (below_size (bel_)) : w.heap.size ≤ gb278)); have n3_ := Aside0.mk ((by rw [hg]; exact (below_size (bel_)) : w.heap.size ≤ gb278)); clear HB; have HB := n0_; have BK278 := n1_; have GW278 := n2_; have GE278 := n3_; clear n0_ n1_ n2_ n3_; clear hb hbox hg) | ((with_reducible refine gate_dst (N := 2) rfl ?_); refine box_event ?hg (N := 2) ?hd (cs := #[.int .i64 0, .int .i64 0, .int .i64 0]) (t := 73) ?hr ?_; (case hd => rfl); (case hg => rfl); (case hr => first | (go_simp; done) | (go_simp; rfl)); intro gb279 hg w10 hbox hb; have n0_ := Aside0.mk (blk_below (g := gb278) (o := .cells #[.int .i64 a0_0, .int .i64 a0_1, .int .i64 a0_2] 73 (0, 0)) (nB_ BK278.out) hb); have n1_ := Aside0.mk (below_step (belH_) hb); have n2_ := Aside0.mk (hbox); have n3_ := Aside0.mk ((by rw [hg]; exact (below_size (belH_)) : w.heap.size ≤ gb279)); have n4_ := Aside0.mk ((by rw [hg]; exact (below_size (belH_)) : w.heap.size ≤ gb279)); have n5_ := Aside0.mk ((by rw [hg]; exact Nat.ne_of_lt (blk_lt (g := gb278) (o := .cells #[.int .i64 a0_0, .int .i64 a0_1, .int .i64 a0_2] 73 (0, 0)) (nB_ BK278.out)) : gb278 ≠ gb279)); have n6_ := Aside0.mk ((by rw [hg]; exact Nat.ne_of_gt (blk_lt (g := gb278) (o := .cells #[.int .i64 a0_0, .int .i64 a0_1, .int .i64 a0_2] 73 (0, 0)) (nB_ BK278.out)) : gb279 ≠ gb278)); clear BK278; clear HB; have BK278 := n0_; have HB := n1_; have BK279 := n2_; have GW279 := n3_; have GE279 := n4_; have NB278_279 := n5_; have NB279_278 := n6_; clear n0_ n1_ n2_ n3_ n4_ n5_ n6_; clear hb hbox hg; have hnb11 := NB278_279.out; have hnc11 := NB279_278.out; have hcz12_0 : w10.cell? ⟨gb278, 0, none⟩ = some (.int .i64 a0_0) := (blk_cell BK278.out 0).trans rfl; have hcz12_1 : w10.cell? ⟨gb278, 1, none⟩ = some (.int .i64 a0_1) := (blk_cell BK278.out 1).trans rfl; have hcz12_2 : w10.cell? ⟨gb278, 2, none⟩ = some (.int .i64 a0_2) := (blk_cell BK278.out 2).trans rfl; have hfz12_0 := blk_frozen BK278.out 0; have hfz12_1 := blk_frozen BK278.out 1; have hfz12_2 := blk_frozen BK278.out 2; have hcz13_0 : w10.cell? ⟨gb279, 0, none⟩ = some (.int .i64 0) := (blk_cell BK279.out 0).trans rfl; have hcz13_1 : w10.cell? ⟨gb279, 1, none⟩ = some (.int .i64 0) := (blk_cell BK279.out 1).trans rfl; have hcz13_2 : w10.cell? ⟨gb279, 2, none⟩ = some (.int .i64 0) := (blk_cell BK279.out 2).trans rfl; have hfz13_0 := blk_frozen BK279.out 0; have hfz13_1 := blk_frozen BK279.out 1; have hfz13_2 := blk_frozen BK279.out 2))
     refine bodyPost_ret (results_cell_row rfl _ _ gb279 73 #[.int .i64 a0_0, .int .i64 (wrap64 (a0_1 + 1)), .int .i64 (Int.tmod (wrap64 (a0_2 + 2)) 4)] (0, 0) _ rfl (by (with_reducible repeat (first | refine blk_drewN ?_ _ | refine blk_drew ?_ | refine blk_alloc ?_ _)); refine blk_put (cs := #[.int .i64 a0_0, .int .i64 (wrap64 (a0_1 + 1)), .int .i64 0]) ?_ 2 _ rfl; (with_reducible repeat (first | refine blk_drewN ?_ _ | refine blk_drew ?_ | refine blk_alloc ?_ _)); refine blk_put (cs := #[.int .i64 a0_0, .int .i64 0, .int .i64 0]) ?_ 1 _ rfl; (with_reducible repeat (first | refine blk_drewN ?_ _ | refine blk_drew ?_ | refine blk_alloc ?_ _)); refine blk_put (cs := #[.int .i64 0, .int .i64 0, .int .i64 0]) ?_ 0 _ rfl; (with_reducible repeat (first | refine blk_drewN ?_ _ | refine blk_drew ?_ | refine blk_alloc ?_ _)); refine blk_far ?_ NB279_278.out _; (with_reducible repeat (first | refine blk_drewN ?_ _ | refine blk_drew ?_ | refine blk_alloc ?_ _)); refine blk_far ?_ NB279_278.out _; (with_reducible repeat (first | refine blk_drewN ?_ _ | refine blk_drew ?_ | refine blk_alloc ?_ _)); exact BK279.out) Try.underlying73 rfl (by kernel_rfl)) rfl ?_
     exact ⟨er_, by repeat (first | (with_reducible first | exact HB.out | apply below_alloc | apply pw_below_drewN | apply below_drew1 | refine below_set ?_ GE278.out | refine below_set ?_ GE279.out) | exact HB.out)⟩
   · rw [if_neg c8] at H
     have c8b0 : (a0_2 == 1) = false := beq_eq_false_iff_ne.mpr c8
     have c8b1 : (a0_2 != 1) = true := bne_iff_ne.mpr c8
     by_cases c14 : a0_2 = 2
     · rw [if_pos c14] at H
       have c14b0 : (a0_2 == 2) = true := beq_iff_eq.mpr c14
       have c14b1 : (a0_2 != 2) = false := bne_eq_false_iff_eq.mpr c14
       clear c14
       simp only [Option.some.injEq, Prod.mk.injEq] at H
       obtain ⟨rfl, rfl, rfl⟩ := H
       go_enter Try.func78, Try.ntmps78
       go_wp2_with (first | ((with_reducible refine gate_dst (N := 1) rfl ?_); refine box_event ?hg (N := 1) ?hd (cs := #[.int .i64 a0_0, .int .i64 a0_1, .int .i64 a0_2]) (t := 73) ?hr ?_; (case hd => rfl); (case hg => rfl); (case hr => first | (go_simp; done) | (go_simp; rfl)); intro gb278 hg w15 hbox hb; have n0_ := Aside0.mk (below_step (bel_) hb); have n1_ := Aside0.mk (hbox); have n2_ := Aside0.mk ((by rw [hg]; exact (below_size (bel_)) : w.heap.size ≤ gb278)); have n3_ := Aside0.mk ((by rw [hg]; exact (below_size (bel_)) : w.heap.size ≤ gb278)); clear HB; have HB := n0_; have BK278 := n1_; have GW278 := n2_; have GE278 := n3_; clear n0_ n1_ n2_ n3_; clear hb hbox hg) | ((with_reducible refine gate_dst (N := 2) rfl ?_); refine box_event ?hg (N := 2) ?hd (cs := #[.int .i64 0, .int .i64 0, .int .i64 0]) (t := 73) ?hr ?_; (case hd => rfl); (case hg => rfl); (case hr => first | (go_simp; done) | (go_simp; rfl)); intro gb279 hg w16 hbox hb; have n0_ := Aside0.mk (blk_below (g := gb278) (o := .cells #[.int .i64 a0_0, .int .i64 a0_1, .int .i64 a0_2] 73 (0, 0)) (nB_ BK278.out) hb); have n1_ := Aside0.mk (below_step (belH_) hb); have n2_ := Aside0.mk (hbox); have n3_ := Aside0.mk ((by rw [hg]; exact (below_size (belH_)) : w.heap.size ≤ gb279)); have n4_ := Aside0.mk ((by rw [hg]; exact (below_size (belH_)) : w.heap.size ≤ gb279)); have n5_ := Aside0.mk ((by rw [hg]; exact Nat.ne_of_lt (blk_lt (g := gb278) (o := .cells #[.int .i64 a0_0, .int .i64 a0_1, .int .i64 a0_2] 73 (0, 0)) (nB_ BK278.out)) : gb278 ≠ gb279)); have n6_ := Aside0.mk ((by rw [hg]; exact Nat.ne_of_gt (blk_lt (g := gb278) (o := .cells #[.int .i64 a0_0, .int .i64 a0_1, .int .i64 a0_2] 73 (0, 0)) (nB_ BK278.out)) : gb279 ≠ gb278)); clear BK278; clear HB; have BK278 := n0_; have HB := n1_; have BK279 := n2_; have GW279 := n3_; have GE279 := n4_; have NB278_279 := n5_; have NB279_278 := n6_; clear n0_ n1_ n2_ n3_ n4_ n5_ n6_; clear hb hbox hg; have hnb17 := NB278_279.out; have hnc17 := NB279_278.out; have hcz18_0 : w16.cell? ⟨gb278, 0, none⟩ = some (.int .i64 a0_0) := (blk_cell BK278.out 0).trans rfl; have hcz18_1 : w16.cell? ⟨gb278, 1, none⟩ = some (.int .i64 a0_1) := (blk_cell BK278.out 1).trans rfl; have hcz18_2 : w16.cell? ⟨gb278, 2, none⟩ = some (.int .i64 a0_2) := (blk_cell BK278.out 2).trans rfl; have hfz18_0 := blk_frozen BK278.out 0; have hfz18_1 := blk_frozen BK278.out 1; have hfz18_2 := blk_frozen BK278.out 2; have hcz19_0 : w16.cell? ⟨gb279, 0, none⟩ = some (.int .i64 0) := (blk_cell BK279.out 0).trans rfl; have hcz19_1 : w16.cell? ⟨gb279, 1, none⟩ = some (.int .i64 0) := (blk_cell BK279.out 1).trans rfl; have hcz19_2 : w16.cell? ⟨gb279, 2, none⟩ = some (.int .i64 0) := (blk_cell BK279.out 2).trans rfl; have hfz19_0 := blk_frozen BK279.out 0; have hfz19_1 := blk_frozen BK279.out 1; have hfz19_2 := blk_frozen BK279.out 2))
       refine bodyPost_ret (results_cell_row rfl _ _ gb279 73 #[.int .i64 (wrap64 (a0_0 + 1)), .int .i64 a0_1, .int .i64 (Int.tmod (wrap64 (a0_2 + 2)) 4)] (0, 0) _ rfl (by (with_reducible repeat (first | refine blk_drewN ?_ _ | refine blk_drew ?_ | refine blk_alloc ?_ _)); refine blk_put (cs := #[.int .i64 (wrap64 (a0_0 + 1)), .int .i64 a0_1, .int .i64 0]) ?_ 2 _ rfl; (with_reducible repeat (first | refine blk_drewN ?_ _ | refine blk_drew ?_ | refine blk_alloc ?_ _)); refine blk_put (cs := #[.int .i64 (wrap64 (a0_0 + 1)), .int .i64 0, .int .i64 0]) ?_ 1 _ rfl; (with_reducible repeat (first | refine blk_drewN ?_ _ | refine blk_drew ?_ | refine blk_alloc ?_ _)); refine blk_put (cs := #[.int .i64 0, .int .i64 0, .int .i64 0]) ?_ 0 _ rfl; (with_reducible repeat (first | refine blk_drewN ?_ _ | refine blk_drew ?_ | refine blk_alloc ?_ _)); refine blk_far ?_ NB279_278.out _; (with_reducible repeat (first | refine blk_drewN ?_ _ | refine blk_drew ?_ | refine blk_alloc ?_ _)); refine blk_far ?_ NB279_278.out _; (with_reducible repeat (first | refine blk_drewN ?_ _ | refine blk_drew ?_ | refine blk_alloc ?_ _)); exact BK279.out) Try.underlying73 rfl (by kernel_rfl)) rfl ?_
       exact ⟨er_, by repeat (first | (with_reducible first | exact HB.out | apply below_alloc | apply pw_below_drewN | apply below_drew1 | refine below_set ?_ GE278.out | refine below_set ?_ GE279.out) | exact HB.out)⟩
     · rw [if_neg c14] at H
       have c14b0 : (a0_2 == 2) = false := beq_eq_false_iff_ne.mpr c14
       have c14b1 : (a0_2 != 2) = true := bne_iff_ne.mpr c14
       simp only [Option.some.injEq, Prod.mk.injEq] at H
       obtain ⟨rfl, rfl, rfl⟩ := H
       go_enter Try.func78, Try.ntmps78
       go_wp2_with (first | ((with_reducible refine gate_dst (N := 1) rfl ?_); refine box_event ?hg (N := 1) ?hd (cs := #[.int .i64 a0_0, .int .i64 a0_1, .int .i64 a0_2]) (t := 73) ?hr ?_; (case hd => rfl); (case hg => rfl); (case hr => first | (go_simp; done) | (go_simp; rfl)); intro gb278 hg w20 hbox hb; have n0_ := Aside0.mk (below_step (bel_) hb); have n1_ := Aside0.mk (hbox); have n2_ := Aside0.mk ((by rw [hg]; exact (below_size (bel_)) : w.heap.size ≤ gb278)); have n3_ := Aside0.mk ((by rw [hg]; exact (below_size (bel_)) : w.heap.size ≤ gb278)); clear HB; have HB := n0_; have BK278 := n1_; have GW278 := n2_; have GE278 := n3_; clear n0_ n1_ n2_ n3_; clear hb hbox hg) | ((with_reducible refine gate_dst (N := 2) rfl ?_); refine box_event ?hg (N := 2) ?hd (cs := #[.int .i64 0, .int .i64 0, .int .i64 0]) (t := 73) ?hr ?_; (case hd => rfl); (case hg => rfl); (case hr => first | (go_simp; done) | (go_simp; rfl)); intro gb279 hg w21 hbox hb; have n0_ := Aside0.mk (blk_below (g := gb278) (o := .cells #[.int .i64 a0_0, .int .i64 a0_1, .int .i64 a0_2] 73 (0, 0)) (nB_ BK278.out) hb); have n1_ := Aside0.mk (below_step (belH_) hb); have n2_ := Aside0.mk (hbox); have n3_ := Aside0.mk ((by rw [hg]; exact (below_size (belH_)) : w.heap.size ≤ gb279)); have n4_ := Aside0.mk ((by rw [hg]; exact (below_size (belH_)) : w.heap.size ≤ gb279)); have n5_ := Aside0.mk ((by rw [hg]; exact Nat.ne_of_lt (blk_lt (g := gb278) (o := .cells #[.int .i64 a0_0, .int .i64 a0_1, .int .i64 a0_2] 73 (0, 0)) (nB_ BK278.out)) : gb278 ≠ gb279)); have n6_ := Aside0.mk ((by rw [hg]; exact Nat.ne_of_gt (blk_lt (g := gb278) (o := .cells #[.int .i64 a0_0, .int .i64 a0_1, .int .i64 a0_2] 73 (0, 0)) (nB_ BK278.out)) : gb279 ≠ gb278)); clear BK278; clear HB; have BK278 := n0_; have HB := n1_; have BK279 := n2_; have GW279 := n3_; have GE279 := n4_; have NB278_279 := n5_; have NB279_278 := n6_; clear n0_ n1_ n2_ n3_ n4_ n5_ n6_; clear hb hbox hg; have hnb22 := NB278_279.out; have hnc22 := NB279_278.out; have hcz23_0 : w21.cell? ⟨gb278, 0, none⟩ = some (.int .i64 a0_0) := (blk_cell BK278.out 0).trans rfl; have hcz23_1 : w21.cell? ⟨gb278, 1, none⟩ = some (.int .i64 a0_1) := (blk_cell BK278.out 1).trans rfl; have hcz23_2 : w21.cell? ⟨gb278, 2, none⟩ = some (.int .i64 a0_2) := (blk_cell BK278.out 2).trans rfl; have hfz23_0 := blk_frozen BK278.out 0; have hfz23_1 := blk_frozen BK278.out 1; have hfz23_2 := blk_frozen BK278.out 2; have hcz24_0 : w21.cell? ⟨gb279, 0, none⟩ = some (.int .i64 0) := (blk_cell BK279.out 0).trans rfl; have hcz24_1 : w21.cell? ⟨gb279, 1, none⟩ = some (.int .i64 0) := (blk_cell BK279.out 1).trans rfl; have hcz24_2 : w21.cell? ⟨gb279, 2, none⟩ = some (.int .i64 0) := (blk_cell BK279.out 2).trans rfl; have hfz24_0 := blk_frozen BK279.out 0; have hfz24_1 := blk_frozen BK279.out 1; have hfz24_2 := blk_frozen BK279.out 2))
       refine bodyPost_ret (results_cell_row rfl _ _ gb279 73 #[.int .i64 a0_0, .int .i64 (wrap64 (a0_1 - 1)), .int .i64 (Int.tmod (wrap64 (a0_2 + 2)) 4)] (0, 0) _ rfl (by (with_reducible repeat (first | refine blk_drewN ?_ _ | refine blk_drew ?_ | refine blk_alloc ?_ _)); refine blk_put (cs := #[.int .i64 a0_0, .int .i64 (wrap64 (a0_1 - 1)), .int .i64 0]) ?_ 2 _ rfl; (with_reducible repeat (first | refine blk_drewN ?_ _ | refine blk_drew ?_ | refine blk_alloc ?_ _)); refine blk_put (cs := #[.int .i64 a0_0, .int .i64 0, .int .i64 0]) ?_ 1 _ rfl; (with_reducible repeat (first | refine blk_drewN ?_ _ | refine blk_drew ?_ | refine blk_alloc ?_ _)); refine blk_put (cs := #[.int .i64 0, .int .i64 0, .int .i64 0]) ?_ 0 _ rfl; (with_reducible repeat (first | refine blk_drewN ?_ _ | refine blk_drew ?_ | refine blk_alloc ?_ _)); refine blk_far ?_ NB279_278.out _; (with_reducible repeat (first | refine blk_drewN ?_ _ | refine blk_drew ?_ | refine blk_alloc ?_ _)); refine blk_far ?_ NB279_278.out _; (with_reducible repeat (first | refine blk_drewN ?_ _ | refine blk_drew ?_ | refine blk_alloc ?_ _)); exact BK279.out) Try.underlying73 rfl (by kernel_rfl)) rfl ?_
       exact ⟨er_, by repeat (first | (with_reducible first | exact HB.out | apply below_alloc | apply pw_below_drewN | apply below_drew1 | refine below_set ?_ GE278.out | refine below_set ?_ GE279.out) | exact HB.out)⟩

end Go.Proofs.Ytdinepghommchaa.V
