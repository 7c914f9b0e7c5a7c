/- The walks, their words and the pure laws under the claim of VeilsSteep, part: Vx0, Vf19, Hc, Vsa, Vf62, Vf61, Vf59, Vf41, Vf63, Vf43, Vf42, Vf13. -/
import Derived.Test.YtdinepghommchaaProg
import Derived.Below
import Derived.Deep.Draws
import Derived.Deep.AppendLies
import Derived.Maps.AppendAt
import Derived.OwnWalk
import Derived.Laws.BytesArg
import Derived.Laws.MakeOwn
import Derived.Laws.OwnMore
import Derived.Deep.OwnRows
import Derived.Tactics
import Derived.Lib.ConvBytes
import Derived.Laws.Slices
import Derived.WalkKit
import Derived.KernelRfl
import Derived.RowKit3
import Derived.Deep.LoopGhost
import Derived.Deep.QuietTactic
import Derived.BigQuiet
import Derived.WideLaws
import Derived.Deep.DeepCutAuto
import Derived.Deep.CutBlock
import Derived.Deep.RegionHeld3
import Derived.Laws.Rows
import Derived.Lib.AppendStr
import Derived.ArgAppend
import Derived.Laws.IdiomCopy
import Derived.OrdersHeld
import Derived.Laws.BitsLemmas
import Derived.RowKit
import Derived.Test.YtdinepghommchaaWWords
import Derived.Test.YtdinepghommchaaWLast
import Derived.Test.YtdinepghommchaaWTab
import Derived.Test.YtdinepghommchaaWQPut
import Derived.Test.YtdinepghommchaaWApart
import Derived.Test.YtdinepghommchaaWArr
import Derived.Test.YtdinepghommchaaWZeros
import Derived.Test.YtdinepghommchaaWFoot
import Derived.Test.YtdinepghommchaaWKept
import Derived.Test.YtdinepghommchaaWShare
import Derived.Test.YtdinepghommchaaWN
import Derived.Test.YtdinepghommchaaWEqStruct
import Derived.Test.YtdinepghommchaaWRepsOne
import Derived.Test.YtdinepghommchaaWGuard
import Derived.Test.YtdinepghommchaaWNEv
import Derived.Test.YtdinepghommchaaWMore
import Derived.Laws.EntriesVeiled
import Derived.Lib.SliceRun
-- Written by a program of this session over the kit's printer: wip/gp.py.
namespace Go.Proofs.Ytdinepghommchaa.V
open Go.RowKit Go.Proofs.YtdinepghommchaaW.PrintWords Go.Proofs.YtdinepghommchaaW.PrintLast Go.Proofs.YtdinepghommchaaW.PrintMore
attribute [local go_sem] max2_int min2_int max_two min_two max_three min_three max_four min_four   -- for this text's walks alone
set_option linter.unusedVariables false
set_option linter.unusedSimpArgs false



def errW : Option Int → Value
 | none => .nilIface
 | some c => .iface 0 (.int .i64 c)
theorem errW_none : errW none = .nilIface := rfl
theorem errW_some (c : Int) : errW (some c) = .iface 0 (.int .i64 c) := rfl

theorem info3 : (Try.prog.info? 3).map (fun i => (i.zero, i.size, i.bytes)) = some (some (.int .i64 0), 1, 8) := by kernel_rfl
theorem info27 : (Try.prog.info? 27).map (fun i => (i.zero, i.size, i.bytes)) = some (some (.slice none 0 0), 1, 24) := by kernel_rfl
theorem info28 : (Try.prog.info? 28).map (fun i => (i.zero, i.size, i.bytes)) = some (some (.slice none 0 0), 1, 24) := by kernel_rfl
-- the values' own types
def rd_L1 (xs : List (List Int)) (i : Int) : (List Int) := xs.getD i.toNat ([] : List Int)
theorem at_L1 {w : World} {A : Option Addr} {n : Nat} {xs : List (List Int)} (h : Kd.C (Kd.slice 3 (Kd.int .i64)) w A n xs) (i : Int) (h0 : 0 ≤ i) (h1 : i < n) : ∃ ad A0 c0, A = some ad ∧ w.cell? (ad.add i.toNat) = some (.slice A0 (rd_L1 xs i).length c0) ∧ (rd_L1 xs i).length ≤ c0 ∧ (Kd.int .i64).C w A0 (rd_L1 xs i).length (rd_L1 xs i) := by
 obtain ⟨ad, c, e, _, hK, hc0⟩ := Kd.C_get h ([] : List Int) i h0 h1
 have hc : ∀ j u, c[j]? = some u → w.cell? (ad.add (i.toNat * 1 + j)) = some u := hc0
 obtain ⟨A0, c0, rfl, l0, g0⟩ := hK
 exact ⟨ad, A0, c0, e, by have hq := hc 0 _ rfl; rwa [Nat.mul_one, Nat.add_zero] at hq, l0, g0⟩

def rd_L2 (xs : List (List (List Int))) (i : Int) : (List (List Int)) := xs.getD i.toNat ([] : List (List Int))
theorem at_L2 {w : World} {A : Option Addr} {n : Nat} {xs : List (List (List Int))} (h : Kd.C (Kd.slice 28 (Kd.slice 3 (Kd.int .i64))) w A n xs) (i : Int) (h0 : 0 ≤ i) (h1 : i < n) : ∃ ad A0 c0, A = some ad ∧ w.cell? (ad.add i.toNat) = some (.slice A0 (rd_L2 xs i).length c0) ∧ (rd_L2 xs i).length ≤ c0 ∧ (Kd.slice 3 (Kd.int .i64)).C w A0 (rd_L2 xs i).length (rd_L2 xs i) := by
 obtain ⟨ad, c, e, _, hK, hc0⟩ := Kd.C_get h ([] : List (List Int)) i h0 h1
 have hc : ∀ j u, c[j]? = some u → w.cell? (ad.add (i.toNat * 1 + j)) = some u := hc0
 obtain ⟨A0, c0, rfl, l0, g0⟩ := hK
 exact ⟨ad, A0, c0, e, by have hq := hc 0 _ rfl; rwa [Nat.mul_one, Nat.add_zero] at hq, l0, g0⟩

/-! #### struct type 73 -/
structure S73 where
 f0 : Int
 f1 : Int
 f2 : Int
def z73 : S73 := ⟨(0 : Int), (0 : Int), (0 : Int)⟩
def k73 : Kd S73 := Kd.iso (Kd.pair (Kd.int .i64) (Kd.pair (Kd.int .i64) (Kd.int .i64))) (fun x : S73 => (x.f0, x.f1, x.f2))
theorem k73_open {w : World} {x : S73} {cs : List Value} (h : k73.K w x cs) : cs = [.int .i64 x.f0, .int .i64 x.f1, .int .i64 x.f2] := by
 obtain ⟨_, _, rfl, rfl, ⟨_, _, rfl, rfl, rfl⟩⟩ := h
 exact rfl
theorem k73_mkM (w : World) (base : Nat) (ok : Nat → Prop) (x : S73)  : k73.M w base ok x [.int .i64 x.f0, .int .i64 x.f1, .int .i64 x.f2] := ⟨[.int .i64 x.f0], [.int .i64 x.f1, .int .i64 x.f2], rfl, rfl, ⟨[.int .i64 x.f1], [.int .i64 x.f2], rfl, rfl, rfl⟩⟩
def rd_T73 (xs : List S73) (i : Int) : S73 := xs.getD i.toNat z73
theorem at_T73 {w : World} {A : Option Addr} {n : Nat} {xs : List S73} (h : Kd.C k73 w A n xs) (i : Int) (h0 : 0 ≤ i) (h1 : i < n) : ∃ ad , A = some ad ∧ w.cell? (ad.add (i.toNat * 3)) = some (.int .i64 (rd_T73 xs i).f0) ∧ w.cell? ⟨(ad.add (i.toNat * 3)).block, (ad.add (i.toNat * 3)).off + 1, none⟩ = some (.int .i64 (rd_T73 xs i).f1) ∧ w.cell? ⟨(ad.add (i.toNat * 3)).block, (ad.add (i.toNat * 3)).off + 2, none⟩ = some (.int .i64 (rd_T73 xs i).f2) := by
 obtain ⟨ad, c, e, _, hK, hc0⟩ := Kd.C_get h z73 i h0 h1
 have hc : ∀ j u, c[j]? = some u → w.cell? (ad.add (i.toNat * 3 + j)) = some u := hc0
 obtain rfl := k73_open hK
 exact ⟨ad, e, hc 0 _ rfl, by rw [← add_field _ _ 1 (by omega)]; exact hc 1 _ rfl, by rw [← add_field _ _ 2 (by omega)]; exact hc 2 _ rfl⟩

/-! #### struct type 82 -/
structure S82 where
 f0 : Int
 f1 : Int
 f2 : Int
def z82 : S82 := ⟨(0 : Int), (0 : Int), (0 : Int)⟩
def k82 : Kd S82 := Kd.iso (Kd.pair (Kd.int .i64) (Kd.pair (Kd.int .i64) (Kd.int .i64))) (fun x : S82 => (x.f0, x.f1, x.f2))
def rd_T82 (xs : List S82) (i : Int) : S82 := xs.getD i.toNat z82
/-- Facts that the walks ask for again and again, found by the same steps each time. -/
theorem od_ {p : Prop} [Decidable p] (h : decide p = true := by first | (with_reducible assumption) | assumption) : p := of_decide_eq_true h
theorem bel_ {p : Prop} (h : p := by repeat (first | (with_reducible first | exact HB.out | apply below_alloc | apply pw_below_drewN | apply below_drew1) | exact HB.out)) : p := h
theorem rf_ {p : Prop} (h : p := by first | rfl | (simp; done) | (simp [*]; done)) : p := h
theorem dr_ {p : Prop} (h : p := by repeat (first | exact Drawn0.refl _ | apply Drawn0.step)) : p := h
theorem ar_ {p : Prop} (h : p := by (try simp only [List.map_toArray, List.map_cons, List.map_nil]); first | done | rfl | (simp only [List.length_drop, List.length_take]; rfl)) : p := h
theorem belG_ {p : Prop} (h : p := by repeat (first | (with_reducible first | exact HB.out | apply below_alloc | apply pw_below_drewN | apply below_drew1 | refine below_set ?_ GE280.out | refine below_set ?_ GE281.out) | exact HB.out)) : p := h
theorem belH_ {p : Prop} (h : p := by repeat (first | (with_reducible first | exact HB.out | apply below_alloc | apply pw_below_drewN | apply below_drew1 | refine below_set ?_ GE278.out) | exact HB.out)) : p := h
theorem er_ {p : Prop} (h : p := by first | rfl | (simp [errW_none, errW_some] <;> rfl) | (simp [*, errW_none, errW_some] <;> rfl)) : p := h
theorem nN_ {p q : Prop} (h : p) (f : p → q := by intro h_; (with_reducible repeat (first | apply Kd.N_alloc | apply Kd.N_drewN | apply Kd.N_drew)); exact h_) : q := f h
theorem nR_ {p q : Prop} (h : p) (f : p → q := by intro h_; (with_reducible repeat (first | apply Kd.R_alloc | apply Kd.R_drewN | apply Kd.R_drew)); exact h_) : q := f h
theorem nV_ {p q : Prop} (h : p) (f : p → q := by intro h_; (with_reducible repeat (first | apply Kd.V_alloc | apply Kd.V_drewN | apply Kd.V_drew)); exact h_) : q := f h
theorem nS_ {p q : Prop} (h : p) (f : p → q := by intro h_; (with_reducible repeat (first | apply Kd.S_alloc | apply Kd.S_drewN | apply Kd.S_drew)); exact h_) : q := f h
theorem nB_ {p q : Prop} (h : p) (f : p → q := by intro h_; (with_reducible repeat (first | refine blk_drewN ?_ _ | refine blk_drew ?_ | refine blk_alloc ?_ _)); exact h_) : q := f h
theorem ai_ {w : World} {A : Option Addr} {n : Nat} {xs : List Int} (h : (Kd.int .i64).C w A n xs) (i : Int) (h0 : decide (0 ≤ i) = true := by first | (with_reducible assumption) | assumption) (h1 : decide (i < (n : Int)) = true := by first | (with_reducible assumption) | assumption) : ∃ ad, A = some ad ∧ w.cell? (ad.add i.toNat) = some (.int .i64 (rd xs i)) ∧ (0 ≤ i) = True ∧ (i < (n : Int)) = True := by
  have a := of_decide_eq_true h0
  have b := of_decide_eq_true h1
  obtain ⟨ad, e, hx⟩ := Kd.at_int h i a b
  exact ⟨ad, e, hx, eq_true a, eq_true b⟩
theorem al_ {w : World} {A : Option Addr} {n : Nat} {xs : List (List Int)} (h : Kd.C (Kd.slice 3 (Kd.int .i64)) w A n xs) (i : Int) (h0 : decide (0 ≤ i) = true := by first | (with_reducible assumption) | assumption) (h1 : decide (i < (n : Int)) = true := by first | (with_reducible assumption) | assumption) :
    ∃ ad A0 c0, A = some ad ∧ w.cell? (ad.add i.toNat) = some (.slice A0 (rd_L1 xs i).length c0) ∧ Aside0 ((rd_L1 xs i).length ≤ c0) ∧ Aside0 ((Kd.int .i64).C w A0 (rd_L1 xs i).length (rd_L1 xs i)) ∧ (0 ≤ i) = True ∧ (i < (n : Int)) = True := by
  have a := of_decide_eq_true h0
  have b := of_decide_eq_true h1
  obtain ⟨ad, A0, c0, e, hx, hl, hi⟩ := at_L1 h i a b
  exact ⟨ad, A0, c0, e, hx, ⟨hl⟩, ⟨hi⟩, eq_true a, eq_true b⟩
end Go.Proofs.Ytdinepghommchaa.V

-- Written by a program of this session over the kit's printer: wip/gp.py.
namespace Go.Proofs.Ytdinepghommchaa.V
open Go.RowKit Go.Proofs.YtdinepghommchaaW.PrintWords Go.Proofs.YtdinepghommchaaW.PrintLast Go.Proofs.YtdinepghommchaaW.PrintMore
attribute [local go_sem] max2_int min2_int max_two min_two max_three min_three max_four min_four   -- for this text's walks alone
set_option linter.unusedVariables false
set_option linter.unusedSimpArgs false

/-! ### clocheref09_IsVeil: function 19 -/
mutual
def clocheref09_IsVeil.j0 : Nat → List (List Int) → Int → Bool → Option (Bool)
 | 0, _, _, _ => none
 | k + 1, x0, x3, x17 => if x17 = true then (some false) else (clocheref09_IsVeil.l0 k x0 x3 0)
def clocheref09_IsVeil.l0 : Nat → List (List Int) → Int → Int → Option (Bool)
 | 0, _, _, _ => none
 | k + 1, x0, x3, x4 => if x4 < x3 then (if 0 ≤ x4 then (if x4 < (x0.length : Int) then (if ((rd_L1 x0 x4).length : Int) = x3 then (clocheref09_IsVeil.l1 k x0 x3 x4 0) else (some false)) else (none)) else (none)) else (clocheref09_IsVeil.l2 k x0 x3 0)
def clocheref09_IsVeil.l1 : Nat → List (List Int) → Int → Int → Int → Option (Bool)
 | 0, _, _, _, _ => none
 | k + 1, x0, x3, x4, x5 => if x5 < x3 then (if 0 ≤ x4 then (if x4 < (x0.length : Int) then (if 0 ≤ x5 then (if x5 < ((rd_L1 x0 x4).length : Int) then (if (rd (rd_L1 x0 x4) x5) < (-1) then (some false) else (if (rd (rd_L1 x0 x4) x5) > 1 then (some false) else (clocheref09_IsVeil.l1 k x0 x3 x4 (wrap64 (x5 + 1))))) else (none)) else (none)) else (none)) else (none)) else (clocheref09_IsVeil.l0 k x0 x3 (wrap64 (x4 + 1)))
def clocheref09_IsVeil.l2 : Nat → List (List Int) → Int → Int → Option (Bool)
 | 0, _, _, _ => none
 | k + 1, x0, x3, x6 => if x6 < x3 then (clocheref09_IsVeil.l3 k x0 x3 x6 0 0 0) else (some true)
def clocheref09_IsVeil.l3 : Nat → List (List Int) → Int → Int → Int → Int → Int → Option (Bool)
 | 0, _, _, _, _, _, _ => none
 | k + 1, x0, x3, x6, x7, x8, x9 => if x9 < x3 then (if 0 ≤ x6 then (if x6 < (x0.length : Int) then (if 0 ≤ x9 then (if x9 < ((rd_L1 x0 x6).length : Int) then (if x9 < (x0.length : Int) then (if x6 < ((rd_L1 x0 x9).length : Int) then (if (wrap64 (x7 + (rd (rd_L1 x0 x6) x9))) < 0 then (some false) else (if (wrap64 (x7 + (rd (rd_L1 x0 x6) x9))) > 1 then (some false) else (if (wrap64 (x8 + (rd (rd_L1 x0 x9) x6))) < 0 then (some false) else (if (wrap64 (x8 + (rd (rd_L1 x0 x9) x6))) > 1 then (some false) else (clocheref09_IsVeil.l3 k x0 x3 x6 (wrap64 (x7 + (rd (rd_L1 x0 x6) x9))) (wrap64 (x8 + (rd (rd_L1 x0 x9) x6))) (wrap64 (x9 + 1))))))) else (none)) else (none)) else (none)) else (none)) else (none)) else (none)) else (if x7 = 1 then (if x8 = 1 then (clocheref09_IsVeil.l2 k x0 x3 (wrap64 (x6 + 1))) else (some false)) else (some false))
end
def clocheref09_IsVeil.f (k : Nat) (l0 : List (List Int)) : Option (Bool) := if (l0.length : Int) < 1 then (clocheref09_IsVeil.j0 k l0 (l0.length : Int) true) else (clocheref09_IsVeil.j0 k l0 (l0.length : Int) (decide ((l0.length : Int) > 5)))
theorem clocheref09_IsVeil.mono_l : ∀ k, (∀ y0 y1 y2, LeO (clocheref09_IsVeil.j0 k y0 y1 y2) (clocheref09_IsVeil.j0 (k + 1) y0 y1 y2)) ∧ (∀ y0 y1 y2, LeO (clocheref09_IsVeil.l0 k y0 y1 y2) (clocheref09_IsVeil.l0 (k + 1) y0 y1 y2)) ∧ (∀ y0 y1 y2 y3, LeO (clocheref09_IsVeil.l1 k y0 y1 y2 y3) (clocheref09_IsVeil.l1 (k + 1) y0 y1 y2 y3)) ∧ (∀ y0 y1 y2, LeO (clocheref09_IsVeil.l2 k y0 y1 y2) (clocheref09_IsVeil.l2 (k + 1) y0 y1 y2)) ∧ (∀ y0 y1 y2 y3 y4 y5, LeO (clocheref09_IsVeil.l3 k y0 y1 y2 y3 y4 y5) (clocheref09_IsVeil.l3 (k + 1) y0 y1 y2 y3 y4 y5))
 | 0 => ⟨fun _ _ _ r h => by simp [clocheref09_IsVeil.j0] at h, fun _ _ _ r h => by simp [clocheref09_IsVeil.l0] at h, fun _ _ _ _ r h => by simp [clocheref09_IsVeil.l1] at h, fun _ _ _ r h => by simp [clocheref09_IsVeil.l2] at h, fun _ _ _ _ _ _ r h => by simp [clocheref09_IsVeil.l3] at h⟩
 | k + 1 => by
  obtain ⟨ih0, ih1, ih2, ih3, ih4⟩ := clocheref09_IsVeil.mono_l k
  refine ⟨?_, ?_, ?_, ?_, ?_⟩
  · intro y0 y1 y2
    unfold clocheref09_IsVeil.j0
    repeat' first
    | (with_reducible exact ih0 _ _ _)
    | (with_reducible exact ih1 _ _ _)
    | (with_reducible exact ih2 _ _ _ _)
    | (with_reducible exact ih3 _ _ _)
    | (with_reducible exact ih4 _ _ _ _ _ _)
    | (with_reducible exact LeO.refl _)
    | (with_reducible exact LeO.none _)
    | (with_reducible refine LeO.ite ?_ ?_)
    | (with_reducible refine LeO.bind ?_ (fun _ => ?_))
    | exact ih0 _ _ _
    | exact ih1 _ _ _
    | exact ih2 _ _ _ _
    | exact ih3 _ _ _
    | exact ih4 _ _ _ _ _ _
    | exact LeO.none _
    | refine LeO.ite ?_ ?_
    | refine LeO.bind ?_ (fun _ => ?_)
  · intro y0 y1 y2
    unfold clocheref09_IsVeil.l0
    repeat' first
    | (with_reducible exact ih0 _ _ _)
    | (with_reducible exact ih1 _ _ _)
    | (with_reducible exact ih2 _ _ _ _)
    | (with_reducible exact ih3 _ _ _)
    | (with_reducible exact ih4 _ _ _ _ _ _)
    | (with_reducible exact LeO.refl _)
    | (with_reducible exact LeO.none _)
    | (with_reducible refine LeO.ite ?_ ?_)
    | (with_reducible refine LeO.bind ?_ (fun _ => ?_))
    | exact ih0 _ _ _
    | exact ih1 _ _ _
    | exact ih2 _ _ _ _
    | exact ih3 _ _ _
    | exact ih4 _ _ _ _ _ _
    | exact LeO.none _
    | refine LeO.ite ?_ ?_
    | refine LeO.bind ?_ (fun _ => ?_)
  · intro y0 y1 y2 y3
    unfold clocheref09_IsVeil.l1
    repeat' first
    | (with_reducible exact ih0 _ _ _)
    | (with_reducible exact ih1 _ _ _)
    | (with_reducible exact ih2 _ _ _ _)
    | (with_reducible exact ih3 _ _ _)
    | (with_reducible exact ih4 _ _ _ _ _ _)
    | (with_reducible exact LeO.refl _)
    | (with_reducible exact LeO.none _)
    | (with_reducible refine LeO.ite ?_ ?_)
    | (with_reducible refine LeO.bind ?_ (fun _ => ?_))
    | exact ih0 _ _ _
    | exact ih1 _ _ _
    | exact ih2 _ _ _ _
    | exact ih3 _ _ _
    | exact ih4 _ _ _ _ _ _
    | exact LeO.none _
    | refine LeO.ite ?_ ?_
    | refine LeO.bind ?_ (fun _ => ?_)
  · intro y0 y1 y2
    unfold clocheref09_IsVeil.l2
    repeat' first
    | (with_reducible exact ih0 _ _ _)
    | (with_reducible exact ih1 _ _ _)
    | (with_reducible exact ih2 _ _ _ _)
    | (with_reducible exact ih3 _ _ _)
    | (with_reducible exact ih4 _ _ _ _ _ _)
    | (with_reducible exact LeO.refl _)
    | (with_reducible exact LeO.none _)
    | (with_reducible refine LeO.ite ?_ ?_)
    | (with_reducible refine LeO.bind ?_ (fun _ => ?_))
    | exact ih0 _ _ _
    | exact ih1 _ _ _
    | exact ih2 _ _ _ _
    | exact ih3 _ _ _
    | exact ih4 _ _ _ _ _ _
    | exact LeO.none _
    | refine LeO.ite ?_ ?_
    | refine LeO.bind ?_ (fun _ => ?_)
  · intro y0 y1 y2 y3 y4 y5
    unfold clocheref09_IsVeil.l3
    repeat' first
    | (with_reducible exact ih0 _ _ _)
    | (with_reducible exact ih1 _ _ _)
    | (with_reducible exact ih2 _ _ _ _)
    | (with_reducible exact ih3 _ _ _)
    | (with_reducible exact ih4 _ _ _ _ _ _)
    | (with_reducible exact LeO.refl _)
    | (with_reducible exact LeO.none _)
    | (with_reducible refine LeO.ite ?_ ?_)
    | (with_reducible refine LeO.bind ?_ (fun _ => ?_))
    | exact ih0 _ _ _
    | exact ih1 _ _ _
    | exact ih2 _ _ _ _
    | exact ih3 _ _ _
    | exact ih4 _ _ _ _ _ _
    | exact LeO.none _
    | refine LeO.ite ?_ ?_
    | refine LeO.bind ?_ (fun _ => ?_)
theorem clocheref09_IsVeil.mono : ∀ a0 k, LeO (clocheref09_IsVeil.f k a0) (clocheref09_IsVeil.f (k + 1) a0) := by
 intro a0 k
 obtain ⟨ih0, ih1, ih2, ih3, ih4⟩ := clocheref09_IsVeil.mono_l k
 unfold clocheref09_IsVeil.f
 repeat' first
  | (with_reducible exact ih0 _ _ _)
  | (with_reducible exact ih1 _ _ _)
  | (with_reducible exact ih2 _ _ _ _)
  | (with_reducible exact ih3 _ _ _)
  | (with_reducible exact ih4 _ _ _ _ _ _)
  | (with_reducible exact LeO.refl _)
  | (with_reducible exact LeO.none _)
  | (with_reducible refine LeO.ite ?_ ?_)
  | (with_reducible refine LeO.bind ?_ (fun _ => ?_))
  | exact ih0 _ _ _
  | exact ih1 _ _ _
  | exact ih2 _ _ _ _
  | exact ih3 _ _ _
  | exact ih4 _ _ _ _ _ _
  | exact LeO.none _
  | refine LeO.ite ?_ ?_
  | refine LeO.bind ?_ (fun _ => ?_)
set_option maxHeartbeats 8000000 in
set_option maxRecDepth 100000 in
theorem clocheref09_IsVeil.calls (k : Nat) (A0 : Option Addr) (c0 : Nat) (l0 : List (List Int)) (r : Bool) (w : World) (hr0 : Kd.C (Kd.slice 3 (Kd.int .i64)) w A0 l0.length l0) (hc0 : l0.length ≤ c0) (h : clocheref09_IsVeil.f k l0 = some r) :
 Calls Try.prog 19 #[.slice A0 l0.length c0] w fun e w' => e = .returned (.bool r) ∧ Drawn0 w w' := by
 have HR0 := Aside0.mk hr0
 have HC0 := Aside0.mk hc0
 clear hr0 hc0
 have H : (if (l0.length : Int) < 1 then (clocheref09_IsVeil.j0 k l0 (l0.length : Int) true) else (clocheref09_IsVeil.j0 k l0 (l0.length : Int) (decide ((l0.length : Int) > 5)))) = some r := h
 clear h
 have HC2 := Aside0.mk H
 clear H
 go_enter Try.func19, Try.ntmps19
 go_upto_region 2 with (fail)
 go_cut [17] (fun v17 wc => ∃ (kq : Nat) (x17_1 : Bool), v17 = .bool x17_1 ∧ Aside0 (clocheref09_IsVeil.j0 kq l0 (l0.length : Int) x17_1 = some r) ∧ Aside0 (kq ≤ k) ∧ Drawn0 w wc)
 case first =>
  have H := HC2.out
  clear HC2
  by_cases c3 : (l0.length : Int) < 1
  · rw [if_pos c3] at H
    have c3b0 : decide ((l0.length : Int) < 1) = true := decide_eq_true c3
    have c3b1 : decide (l0.length < 1) = true := decide_eq_true (by omega)
    clear c3
    (first | rw [c3b0] | (simp only [i64_w, i32_w]; rw [c3b0]) | skip)
    have H' := Aside0.mk H
    clear H
    go_wp2
    go_meet
    case rel => exact ⟨_, (true), rf_, H', ⟨by first | omega | exact Nat.le_refl _⟩, dr_⟩
  · rw [if_neg c3] at H
    have c3b0 : decide ((l0.length : Int) < 1) = false := decide_eq_false c3
    have c3b1 : decide (l0.length < 1) = false := decide_eq_false (by omega)
    clear c3
    (first | rw [c3b0] | (simp only [i64_w, i32_w]; rw [c3b0]) | skip)
    have H' := Aside0.mk H
    clear H
    go_wp2
    go_meet
    case rel => exact ⟨_, (decide ((l0.length : Int) > 5)), rf_, H', ⟨by first | omega | exact Nat.le_refl _⟩, dr_⟩
 case rest =>
  clear HC2
  try clear c1
  try clear p2
  try clear c3
  try clear c3b0
  try clear c3b1
  obtain ⟨kq, x17_1, rfl, HA, HJ1, ⟨mc1, rfl⟩⟩ := hcut
  cases kq with
  | zero => exact absurd HA.out (by simp [clocheref09_IsVeil.j0])
  | succ kj1 =>
    have H := HA.out
    clear HA
    simp only [clocheref09_IsVeil.j0] at H
    by_cases c4 : x17_1 = true
    · subst c4
      have H1 : (some false) = some r := by rw [if_pos rfl] at H; exact H
      clear H
      have H := H1
      clear H1
      obtain rfl := Option.some.inj H
      go_wp2
      go_ret
      exact ⟨rf_, dr_⟩
    · replace c4 := Bool.eq_false_iff.mpr c4
      subst c4
      have H1 : (clocheref09_IsVeil.l0 kj1 l0 (l0.length : Int) 0) = some r := by rw [if_neg (show ¬ (false = true) by decide)] at H; exact H
      clear H
      have H := H1
      clear H1
      have H' := Aside0.mk H
      clear H
      go_wp2
      go_loopg [4] kj1 (fun kq v4 w' => ∃ (x4_2 : Int), v4 = .int .i64 x4_2 ∧ Aside0 (clocheref09_IsVeil.l0 kq l0 (l0.length : Int) x4_2 = some r) ∧ Aside0 (kq ≤ kj1) ∧ Drawn0 w w')
      case atStart => exact ⟨(0), rf_, H', ⟨Nat.le_refl _⟩, dr_⟩
      case round =>
       clear H'
       try clear c1
       try clear p2
       try clear c3
       try clear c3b0
       try clear c3b1
       try clear c4
       try clear p2
       obtain ⟨x4_2, rfl, HA, HK2, ⟨m2, rfl⟩⟩ := hrel
       cases gk with
       | zero => exact absurd HA.out (by simp [clocheref09_IsVeil.l0])
       | succ k2 =>
        have H := HA.out
        clear HA
        simp only [clocheref09_IsVeil.l0] at H
        by_cases c5 : x4_2 < (l0.length : Int)
        · rw [if_pos c5] at H
          have c5b0 : decide (x4_2 < (l0.length : Int)) = true := decide_eq_true c5
          clear c5
          by_cases c6 : 0 ≤ x4_2
          · rw [if_pos c6] at H
            have c6b0 : decide (0 ≤ x4_2) = true := decide_eq_true c6
            clear c6
            by_cases c7 : x4_2 < (l0.length : Int)
            · rw [if_pos c7] at H
              have c7b0 : decide (x4_2 < (l0.length : Int)) = true := decide_eq_true c7
              clear c7
              by_cases c8 : ((rd_L1 l0 x4_2).length : Int) = (l0.length : Int)
              · rw [if_pos c8] at H
                have c8b0 : (((rd_L1 l0 x4_2).length : Int) == (l0.length : Int)) = true := beq_iff_eq.mpr c8
                have c8b1 : (((rd_L1 l0 x4_2).length : Int) != (l0.length : Int)) = false := bne_eq_false_iff_eq.mpr c8
                have c8b2 : ((rd_L1 l0 x4_2).length == l0.length) = true := by first | simpa using c8 | (simp at c8 ⊢; omega)
                clear c8
                have H' := Aside0.mk H
                clear H
                obtain ⟨ad214, A214_0, c214_0, e214, hx214_0, HC214_0, HR214_0, p214, q214⟩ := al_ HR0.out x4_2
                cases e214
                go_wp2
                go_loopg [5] k2 (fun kq v5 w' => ∃ (x5_3 : Int), v5 = .int .i64 x5_3 ∧ Aside0 (clocheref09_IsVeil.l1 kq l0 (l0.length : Int) x4_2 x5_3 = some r) ∧ Aside0 (kq ≤ k2) ∧ Drawn0 w w')
                case atStart => exact ⟨(0), rf_, H', ⟨Nat.le_refl _⟩, dr_⟩
                case round =>
                 clear H'
                 try clear c1
                 try clear c2
                 try clear p2
                 try clear q2
                 try clear hx2
                 try clear c3
                 try clear c3b0
                 try clear c3b1
                 try clear c4
                 try clear c5
                 try clear c5b0
                 try clear c6
                 try clear c6b0
                 try clear c7
                 try clear c7b0
                 try clear c8
                 try clear c8b0
                 try clear c8b1
                 try clear c8b2
                 try clear hx214_0
                 try clear p2
                 try clear p214
                 try clear q214
                 obtain ⟨x5_3, rfl, HA, HK3, ⟨m3, rfl⟩⟩ := hrel
                 cases gk with
                 | zero => exact absurd HA.out (by simp [clocheref09_IsVeil.l1])
                 | succ k3 =>
                  have H := HA.out
                  clear HA
                  simp only [clocheref09_IsVeil.l1] at H
                  by_cases c9 : x5_3 < (l0.length : Int)
                  · rw [if_pos c9] at H
                    have c9b0 : decide (x5_3 < (l0.length : Int)) = true := decide_eq_true c9
                    clear c9
                    by_cases c10 : 0 ≤ x4_2
                    · rw [if_pos c10] at H
                      have c10b0 : decide (0 ≤ x4_2) = true := decide_eq_true c10
                      clear c10
                      by_cases c11 : x4_2 < (l0.length : Int)
                      · rw [if_pos c11] at H
                        have c11b0 : decide (x4_2 < (l0.length : Int)) = true := decide_eq_true c11
                        clear c11
                        by_cases c12 : 0 ≤ x5_3
                        · rw [if_pos c12] at H
                          have c12b0 : decide (0 ≤ x5_3) = true := decide_eq_true c12
                          clear c12
                          by_cases c13 : x5_3 < ((rd_L1 l0 x4_2).length : Int)
                          · rw [if_pos c13] at H
                            have c13b0 : decide (x5_3 < ((rd_L1 l0 x4_2).length : Int)) = true := decide_eq_true c13
                            clear c13
                            by_cases c14 : (rd (rd_L1 l0 x4_2) x5_3) < (-1)
                            · rw [if_pos c14] at H
                              have c14b0 : decide ((rd (rd_L1 l0 x4_2) x5_3) < (-1)) = true := decide_eq_true c14
                              clear c14
                              obtain rfl := Option.some.inj H
                              obtain ⟨ad215, A215_0, c215_0, e215, hx215_0, HC215_0, HR215_0, p215, q215⟩ := al_ HR0.out x4_2
                              obtain rfl : ad214 = ad215 := (by injection e215)
                              obtain ⟨ad216, e216, hx216_0, p216, q216⟩ := ai_ HR215_0.out x5_3
                              cases e216
                              go_wp2
                              go_ret
                              exact ⟨rf_, dr_⟩
                            · rw [if_neg c14] at H
                              have c14b0 : decide ((rd (rd_L1 l0 x4_2) x5_3) < (-1)) = false := decide_eq_false c14
                              clear c14
                              by_cases c15 : (rd (rd_L1 l0 x4_2) x5_3) > 1
                              · rw [if_pos c15] at H
                                have c15b0 : decide (1 < (rd (rd_L1 l0 x4_2) x5_3)) = true := decide_eq_true c15
                                clear c15
                                obtain rfl := Option.some.inj H
                                obtain ⟨ad215, A215_0, c215_0, e215, hx215_0, HC215_0, HR215_0, p215, q215⟩ := al_ HR0.out x4_2
                                obtain rfl : ad214 = ad215 := (by injection e215)
                                obtain ⟨ad216, e216, hx216_0, p216, q216⟩ := ai_ HR215_0.out x5_3
                                cases e216
                                obtain ⟨ad217, A217_0, c217_0, e217, hx217_0, HC217_0, HR217_0, p217, q217⟩ := al_ HR0.out x4_2
                                obtain rfl : ad214 = ad217 := (by injection e217)
                                have ea_ := Option.some.inj (hx215_0.symm.trans hx217_0)
                                injection ea_ with ea_ en_ ec_
                                subst ea_
                                subst ec_
                                clear en_
                                obtain ⟨ad218, e218, hx218_0, p218, q218⟩ := ai_ HR217_0.out x5_3
                                cases e218
                                go_wp2
                                go_ret
                                exact ⟨rf_, dr_⟩
                              · rw [if_neg c15] at H
                                have c15b0 : decide (1 < (rd (rd_L1 l0 x4_2) x5_3)) = false := decide_eq_false c15
                                clear c15
                                have H' := Aside0.mk H
                                clear H
                                obtain ⟨ad215, A215_0, c215_0, e215, hx215_0, HC215_0, HR215_0, p215, q215⟩ := al_ HR0.out x4_2
                                obtain rfl : ad214 = ad215 := (by injection e215)
                                obtain ⟨ad216, e216, hx216_0, p216, q216⟩ := ai_ HR215_0.out x5_3
                                cases e216
                                obtain ⟨ad217, A217_0, c217_0, e217, hx217_0, HC217_0, HR217_0, p217, q217⟩ := al_ HR0.out x4_2
                                obtain rfl : ad214 = ad217 := (by injection e217)
                                have ea_ := Option.some.inj (hx215_0.symm.trans hx217_0)
                                injection ea_ with ea_ en_ ec_
                                subst ea_
                                subst ec_
                                clear en_
                                obtain ⟨ad218, e218, hx218_0, p218, q218⟩ := ai_ HR217_0.out x5_3
                                cases e218
                                go_wp2
                                go_roundg k3
                                case measure => have := HJ1.out; have := HK2.out; have := HK3.out; omega
                                case rel => exact ⟨(wrap64 (x5_3 + 1)), rf_, H', ⟨by have := HJ1.out; have := HK2.out; have := HK3.out; omega⟩, dr_⟩
                          · rw [if_neg c13] at H
                            exact absurd H (by simp)
                        · rw [if_neg c12] at H
                          exact absurd H (by simp)
                      · rw [if_neg c11] at H
                        exact absurd H (by simp)
                    · rw [if_neg c10] at H
                      exact absurd H (by simp)
                  · rw [if_neg c9] at H
                    have c9b0 : decide (x5_3 < (l0.length : Int)) = false := decide_eq_false c9
                    clear c9
                    have H' := Aside0.mk H
                    clear H
                    go_wp2
                    go_roundg k3
                    case measure => have := HJ1.out; have := HK2.out; have := HK3.out; omega
                    case rel => exact ⟨(wrap64 (x4_2 + 1)), rf_, H', ⟨by have := HJ1.out; have := HK2.out; have := HK3.out; omega⟩, dr_⟩
              · rw [if_neg c8] at H
                have c8b0 : (((rd_L1 l0 x4_2).length : Int) == (l0.length : Int)) = false := beq_eq_false_iff_ne.mpr c8
                have c8b1 : (((rd_L1 l0 x4_2).length : Int) != (l0.length : Int)) = true := bne_iff_ne.mpr c8
                have c8b2 : ((rd_L1 l0 x4_2).length == l0.length) = false := by first | simpa using c8 | (simp at c8 ⊢; omega)
                obtain rfl := Option.some.inj H
                obtain ⟨ad214, A214_0, c214_0, e214, hx214_0, HC214_0, HR214_0, p214, q214⟩ := al_ HR0.out x4_2
                cases e214
                go_wp2
                go_ret
                exact ⟨rf_, dr_⟩
            · rw [if_neg c7] at H
              exact absurd H (by simp)
          · rw [if_neg c6] at H
            exact absurd H (by simp)
        · rw [if_neg c5] at H
          have c5b0 : decide (x4_2 < (l0.length : Int)) = false := decide_eq_false c5
          clear c5
          have H' := Aside0.mk H
          clear H
          go_wp2
          go_loopg [6] k2 (fun kq v6 w' => ∃ (x6_3 : Int), v6 = .int .i64 x6_3 ∧ Aside0 (clocheref09_IsVeil.l2 kq l0 (l0.length : Int) x6_3 = some r) ∧ Aside0 (kq ≤ k2) ∧ Drawn0 w w')
          case atStart => exact ⟨(0), rf_, H', ⟨Nat.le_refl _⟩, dr_⟩
          case round =>
           clear H'
           try clear c1
           try clear c2
           try clear p2
           try clear q2
           try clear hx2
           try clear c3
           try clear c3b0
           try clear c3b1
           try clear c4
           try clear c5
           try clear c5b0
           try clear c6
           try clear c6b0
           try clear p6
           try clear c7
           try clear c7b0
           try clear c8
           try clear c8b0
           try clear c8b1
           try clear c8b2
           try clear c9
           try clear c9b0
           try clear c10
           try clear c10b0
           try clear c11
           try clear c11b0
           try clear c12
           try clear c12b0
           try clear c13
           try clear c13b0
           try clear c14
           try clear c14b0
           try clear c15
           try clear c15b0
           try clear hx214_0
           try clear hx215_0
           try clear hx216_0
           try clear hx217_0
           try clear hx218_0
           try clear p2
           try clear p214
           try clear p215
           try clear p216
           try clear p217
           try clear p218
           try clear q2
           try clear q214
           try clear q215
           try clear q216
           try clear q217
           try clear q218
           obtain ⟨x6_3, rfl, HA, HK3, ⟨m3, rfl⟩⟩ := hrel
           cases gk with
           | zero => exact absurd HA.out (by simp [clocheref09_IsVeil.l2])
           | succ k3 =>
            have H := HA.out
            clear HA
            simp only [clocheref09_IsVeil.l2] at H
            by_cases c16 : x6_3 < (l0.length : Int)
            · rw [if_pos c16] at H
              have c16b0 : decide (x6_3 < (l0.length : Int)) = true := decide_eq_true c16
              clear c16
              have H' := Aside0.mk H
              clear H
              go_wp2
              go_loopg [7, 8, 9] k3 (fun kq v7 v8 v9 w' => ∃ (x7_4 : Int) (x8_4 : Int) (x9_4 : Int), v7 = .int .i64 x7_4 ∧ v8 = .int .i64 x8_4 ∧ v9 = .int .i64 x9_4 ∧ Aside0 (clocheref09_IsVeil.l3 kq l0 (l0.length : Int) x6_3 x7_4 x8_4 x9_4 = some r) ∧ Aside0 (kq ≤ k3) ∧ Drawn0 w w')
              case atStart => exact ⟨(0), (0), (0), rf_, rf_, rf_, H', ⟨Nat.le_refl _⟩, dr_⟩
              case round =>
               clear H'
               try clear c1
               try clear c2
               try clear p2
               try clear q2
               try clear hx2
               try clear c3
               try clear c3b0
               try clear c3b1
               try clear c4
               try clear c5
               try clear c5b0
               try clear c6
               try clear c6b0
               try clear p6
               try clear c7
               try clear c7b0
               try clear c8
               try clear c8b0
               try clear c8b1
               try clear c8b2
               try clear c9
               try clear c9b0
               try clear c10
               try clear c10b0
               try clear c11
               try clear c11b0
               try clear c12
               try clear c12b0
               try clear c13
               try clear c13b0
               try clear c14
               try clear c14b0
               try clear c15
               try clear c15b0
               try clear c16
               try clear c16b0
               try clear hx214_0
               try clear hx215_0
               try clear hx216_0
               try clear hx217_0
               try clear hx218_0
               try clear p2
               try clear p214
               try clear p215
               try clear p216
               try clear p217
               try clear p218
               try clear p6
               try clear q2
               try clear q214
               try clear q215
               try clear q216
               try clear q217
               try clear q218
               obtain ⟨x7_4, x8_4, x9_4, rfl, rfl, rfl, HA, HK4, ⟨m4, rfl⟩⟩ := hrel
               cases gk with
               | zero => exact absurd HA.out (by simp [clocheref09_IsVeil.l3])
               | succ k4 =>
                have H := HA.out
                clear HA
                simp only [clocheref09_IsVeil.l3] at H
                by_cases c17 : x9_4 < (l0.length : Int)
                · rw [if_pos c17] at H
                  have c17b0 : decide (x9_4 < (l0.length : Int)) = true := decide_eq_true c17
                  clear c17
                  by_cases c18 : 0 ≤ x6_3
                  · rw [if_pos c18] at H
                    have c18b0 : decide (0 ≤ x6_3) = true := decide_eq_true c18
                    clear c18
                    by_cases c19 : x6_3 < (l0.length : Int)
                    · rw [if_pos c19] at H
                      have c19b0 : decide (x6_3 < (l0.length : Int)) = true := decide_eq_true c19
                      clear c19
                      by_cases c20 : 0 ≤ x9_4
                      · rw [if_pos c20] at H
                        have c20b0 : decide (0 ≤ x9_4) = true := decide_eq_true c20
                        clear c20
                        by_cases c21 : x9_4 < ((rd_L1 l0 x6_3).length : Int)
                        · rw [if_pos c21] at H
                          have c21b0 : decide (x9_4 < ((rd_L1 l0 x6_3).length : Int)) = true := decide_eq_true c21
                          clear c21
                          by_cases c22 : x9_4 < (l0.length : Int)
                          · rw [if_pos c22] at H
                            have c22b0 : decide (x9_4 < (l0.length : Int)) = true := decide_eq_true c22
                            clear c22
                            by_cases c23 : x6_3 < ((rd_L1 l0 x9_4).length : Int)
                            · rw [if_pos c23] at H
                              have c23b0 : decide (x6_3 < ((rd_L1 l0 x9_4).length : Int)) = true := decide_eq_true c23
                              clear c23
                              by_cases c24 : (wrap64 (x7_4 + (rd (rd_L1 l0 x6_3) x9_4))) < 0
                              · rw [if_pos c24] at H
                                have c24b0 : decide ((wrap64 (x7_4 + (rd (rd_L1 l0 x6_3) x9_4))) < 0) = true := decide_eq_true c24
                                clear c24
                                obtain rfl := Option.some.inj H
                                obtain ⟨ad219, A219_0, c219_0, e219, hx219_0, HC219_0, HR219_0, p219, q219⟩ := al_ HR0.out x6_3
                                cases e219
                                obtain ⟨ad220, e220, hx220_0, p220, q220⟩ := ai_ HR219_0.out x9_4
                                cases e220
                                obtain ⟨ad221, A221_0, c221_0, e221, hx221_0, HC221_0, HR221_0, p221, q221⟩ := al_ HR0.out x9_4
                                obtain rfl : ad219 = ad221 := (by injection e221)
                                obtain ⟨ad222, e222, hx222_0, p222, q222⟩ := ai_ HR221_0.out x6_3
                                cases e222
                                go_wp2
                                go_ret
                                exact ⟨rf_, dr_⟩
                              · rw [if_neg c24] at H
                                have c24b0 : decide ((wrap64 (x7_4 + (rd (rd_L1 l0 x6_3) x9_4))) < 0) = false := decide_eq_false c24
                                clear c24
                                by_cases c25 : (wrap64 (x7_4 + (rd (rd_L1 l0 x6_3) x9_4))) > 1
                                · rw [if_pos c25] at H
                                  have c25b0 : decide (1 < (wrap64 (x7_4 + (rd (rd_L1 l0 x6_3) x9_4)))) = true := decide_eq_true c25
                                  clear c25
                                  obtain rfl := Option.some.inj H
                                  obtain ⟨ad219, A219_0, c219_0, e219, hx219_0, HC219_0, HR219_0, p219, q219⟩ := al_ HR0.out x6_3
                                  cases e219
                                  obtain ⟨ad220, e220, hx220_0, p220, q220⟩ := ai_ HR219_0.out x9_4
                                  cases e220
                                  obtain ⟨ad221, A221_0, c221_0, e221, hx221_0, HC221_0, HR221_0, p221, q221⟩ := al_ HR0.out x9_4
                                  obtain rfl : ad219 = ad221 := (by injection e221)
                                  obtain ⟨ad222, e222, hx222_0, p222, q222⟩ := ai_ HR221_0.out x6_3
                                  cases e222
                                  go_wp2
                                  go_ret
                                  exact ⟨rf_, dr_⟩
                                · rw [if_neg c25] at H
                                  have c25b0 : decide (1 < (wrap64 (x7_4 + (rd (rd_L1 l0 x6_3) x9_4)))) = false := decide_eq_false c25
                                  clear c25
                                  by_cases c26 : (wrap64 (x8_4 + (rd (rd_L1 l0 x9_4) x6_3))) < 0
                                  · rw [if_pos c26] at H
                                    have c26b0 : decide ((wrap64 (x8_4 + (rd (rd_L1 l0 x9_4) x6_3))) < 0) = true := decide_eq_true c26
                                    clear c26
                                    obtain rfl := Option.some.inj H
                                    obtain ⟨ad219, A219_0, c219_0, e219, hx219_0, HC219_0, HR219_0, p219, q219⟩ := al_ HR0.out x6_3
                                    cases e219
                                    obtain ⟨ad220, e220, hx220_0, p220, q220⟩ := ai_ HR219_0.out x9_4
                                    cases e220
                                    obtain ⟨ad221, A221_0, c221_0, e221, hx221_0, HC221_0, HR221_0, p221, q221⟩ := al_ HR0.out x9_4
                                    obtain rfl : ad219 = ad221 := (by injection e221)
                                    obtain ⟨ad222, e222, hx222_0, p222, q222⟩ := ai_ HR221_0.out x6_3
                                    cases e222
                                    go_wp2
                                    go_ret
                                    exact ⟨rf_, dr_⟩
                                  · rw [if_neg c26] at H
                                    have c26b0 : decide ((wrap64 (x8_4 + (rd (rd_L1 l0 x9_4) x6_3))) < 0) = false := decide_eq_false c26
                                    clear c26
                                    by_cases c27 : (wrap64 (x8_4 + (rd (rd_L1 l0 x9_4) x6_3))) > 1
                                    · rw [if_pos c27] at H
                                      have c27b0 : decide (1 < (wrap64 (x8_4 + (rd (rd_L1 l0 x9_4) x6_3)))) = true := decide_eq_true c27
                                      clear c27
                                      obtain rfl := Option.some.inj H
                                      obtain ⟨ad219, A219_0, c219_0, e219, hx219_0, HC219_0, HR219_0, p219, q219⟩ := al_ HR0.out x6_3
                                      cases e219
                                      obtain ⟨ad220, e220, hx220_0, p220, q220⟩ := ai_ HR219_0.out x9_4
                                      cases e220
                                      obtain ⟨ad221, A221_0, c221_0, e221, hx221_0, HC221_0, HR221_0, p221, q221⟩ := al_ HR0.out x9_4
                                      obtain rfl : ad219 = ad221 := (by injection e221)
                                      obtain ⟨ad222, e222, hx222_0, p222, q222⟩ := ai_ HR221_0.out x6_3
                                      cases e222
                                      go_wp2
                                      go_ret
                                      exact ⟨rf_, dr_⟩
                                    · rw [if_neg c27] at H
                                      have c27b0 : decide (1 < (wrap64 (x8_4 + (rd (rd_L1 l0 x9_4) x6_3)))) = false := decide_eq_false c27
                                      clear c27
                                      have H' := Aside0.mk H
                                      clear H
                                      obtain ⟨ad219, A219_0, c219_0, e219, hx219_0, HC219_0, HR219_0, p219, q219⟩ := al_ HR0.out x6_3
                                      cases e219
                                      obtain ⟨ad220, e220, hx220_0, p220, q220⟩ := ai_ HR219_0.out x9_4
                                      cases e220
                                      obtain ⟨ad221, A221_0, c221_0, e221, hx221_0, HC221_0, HR221_0, p221, q221⟩ := al_ HR0.out x9_4
                                      obtain rfl : ad219 = ad221 := (by injection e221)
                                      obtain ⟨ad222, e222, hx222_0, p222, q222⟩ := ai_ HR221_0.out x6_3
                                      cases e222
                                      go_wp2
                                      go_roundg k4
                                      case measure => have := HJ1.out; have := HK2.out; have := HK3.out; have := HK4.out; omega
                                      case rel => exact ⟨(wrap64 (x7_4 + (rd (rd_L1 l0 x6_3) x9_4))), (wrap64 (x8_4 + (rd (rd_L1 l0 x9_4) x6_3))), (wrap64 (x9_4 + 1)), rf_, rf_, rf_, H', ⟨by have := HJ1.out; have := HK2.out; have := HK3.out; have := HK4.out; omega⟩, dr_⟩
                            · rw [if_neg c23] at H
                              exact absurd H (by simp)
                          · rw [if_neg c22] at H
                            exact absurd H (by simp)
                        · rw [if_neg c21] at H
                          exact absurd H (by simp)
                      · rw [if_neg c20] at H
                        exact absurd H (by simp)
                    · rw [if_neg c19] at H
                      exact absurd H (by simp)
                  · rw [if_neg c18] at H
                    exact absurd H (by simp)
                · rw [if_neg c17] at H
                  have c17b0 : decide (x9_4 < (l0.length : Int)) = false := decide_eq_false c17
                  clear c17
                  by_cases c28 : x7_4 = 1
                  · rw [if_pos c28] at H
                    have c28b0 : (x7_4 == 1) = true := beq_iff_eq.mpr c28
                    have c28b1 : (x7_4 != 1) = false := bne_eq_false_iff_eq.mpr c28
                    clear c28
                    by_cases c29 : x8_4 = 1
                    · rw [if_pos c29] at H
                      have c29b0 : (x8_4 == 1) = true := beq_iff_eq.mpr c29
                      have c29b1 : (x8_4 != 1) = false := bne_eq_false_iff_eq.mpr c29
                      clear c29
                      have H' := Aside0.mk H
                      clear H
                      go_wp2
                      go_roundg k4
                      case measure => have := HJ1.out; have := HK2.out; have := HK3.out; have := HK4.out; omega
                      case rel => exact ⟨(wrap64 (x6_3 + 1)), rf_, H', ⟨by have := HJ1.out; have := HK2.out; have := HK3.out; have := HK4.out; omega⟩, dr_⟩
                    · rw [if_neg c29] at H
                      have c29b0 : (x8_4 == 1) = false := beq_eq_false_iff_ne.mpr c29
                      have c29b1 : (x8_4 != 1) = true := bne_iff_ne.mpr c29
                      obtain rfl := Option.some.inj H
                      go_wp2
                      go_ret
                      exact ⟨rf_, dr_⟩
                  · rw [if_neg c28] at H
                    have c28b0 : (x7_4 == 1) = false := beq_eq_false_iff_ne.mpr c28
                    have c28b1 : (x7_4 != 1) = true := bne_iff_ne.mpr c28
                    obtain rfl := Option.some.inj H
                    go_wp2
                    go_ret
                    exact ⟨rf_, dr_⟩
            · rw [if_neg c16] at H
              have c16b0 : decide (x6_3 < (l0.length : Int)) = false := decide_eq_false c16
              clear c16
              obtain rfl := Option.some.inj H
              go_wp2
              go_ret
              exact ⟨rf_, dr_⟩

end Go.Proofs.Ytdinepghommchaa.V

/- Calls through function values and through interface values, for the walks of the veils' closures. -/
namespace Go.Proofs.Ytdinepghommchaa.H
open Go.RowKit Go.Proofs.YtdinepghommchaaW.PrintWords Go.Proofs.YtdinepghommchaaW.PrintLast Go.Proofs.YtdinepghommchaaW.PrintMore
set_option linter.unusedVariables false
set_option linter.unusedSimpArgs false

section
variable {P : Program} {ops : Array Oper} {Q : Exit → Act → World → Prop}

theorem value_runs {oi : Oper} {a : Act} {w : World} {f : FuncId} {fn : Func} {x : Operand} {caps : Array Value} {aa : Array Operand} {ts : Array TypeId} (hf : P.funcs[f]? = some fn) (hname : (fn.name == "runtime.NumGoroutine") = false) (hb : fn.body.isSome = true) (args : Array Value)
 (hop : oi.op = .call { callee := .value x, args := aa, argTypes := ts }) (hx : a.eval x = .func (.func f) #[] caps) (hargs : aa.map a.eval ++ caps = args) : (execOp a.eval oi).run P w = .ok (.enter f args) w := by
 have he := enters_ hf hname hb args w
 unfold execOp
 simp [hop, resolve, Deferred.ofValue, invoke, hx, hargs, he]

/-- A call of a function value, in a region that draws its order. -/
theorem goesV_ {oi : Oper} {N : Option Tmp} {a : Act} {w : World} {K : Act → World → Prop} {f : FuncId} {fn : Func} {x : Operand} {caps : Array Value} {aa : Array Operand} {ts : Array TypeId} (hf : P.funcs[f]? = some fn) (hname : (fn.name == "runtime.NumGoroutine") = false) (hb : fn.body.isSome = true) (args : Array Value)
 (hw : Region.wanted oi (yielded ops a.tmps) = true) (hN : oi.dst = N) (hop : oi.op = .call { callee := .value x, args := aa, argTypes := ts }) (hx : a.eval x = .func (.func f) #[] caps) (hargs : aa.map a.eval ++ caps = args)
 (h : Calls P f args w fun e w' => ∃ v, e = .returned v ∧ K (a.put N v) w') : if Region.wanted oi (yielded ops a.tmps) = true then Oper.wp P oi a w K Q else K (a.put N undef) w :=
 call_ f args hw hN (value_runs hf hname hb args hop hx hargs) h

end

theorem m_veil_size (A : Option Addr) (n c : Nat) : ∀ w, (method 208 49 (.slice A n c) "cloche/veils.size").run Try.prog w = .ok (98, .slice A n c) w := fun _ => by kernel_rfl
theorem m_veil_sum (A : Option Addr) (n c : Nat) : ∀ w, (method 208 49 (.slice A n c) "cloche/veils.sum").run Try.prog w = .ok (54, .slice A n c) w := fun _ => by kernel_rfl
theorem m_heights_size (A : Option Addr) (n c : Nat) : ∀ w, (method 208 54 (.slice A n c) "cloche/veils.size").run Try.prog w = .ok (74, .slice A n c) w := fun _ => by kernel_rfl
theorem m_heights_sum (A : Option Addr) (n c : Nat) : ∀ w, (method 208 54 (.slice A n c) "cloche/veils.sum").run Try.prog w = .ok (99, .slice A n c) w := fun _ => by kernel_rfl
end Go.Proofs.Ytdinepghommchaa.H

/- The state in memory of the search for veils: six boxed variables, a row of sums, a row of sums of columns, and the table that is filled; how it stands behind each store. -/
namespace Go.Proofs.Ytdinepghommchaa.V
open Go.RowKit Go.Proofs.YtdinepghommchaaW.PrintWords Go.Proofs.YtdinepghommchaaW.PrintLast Go.Proofs.YtdinepghommchaaW.PrintMore
set_option linter.unusedVariables false
set_option linter.unusedSimpArgs false

/-- Two worlds agree in the blocks of K, and beside the memory. -/
structure Same (K : Nat → Prop) (W W' : World) : Prop where
 os : W'.os = W.os
 tape : W'.tape = W.tape
 output : W'.output = W.output
 size : W.heap.size ≤ W'.heap.size
 block : ∀ k, K k → k < W.heap.size → W'.heap[k]? = W.heap[k]?
theorem Same.refl (K : Nat → Prop) (W : World) : Same K W W := ⟨rfl, rfl, rfl, Nat.le_refl _, fun _ _ _ => rfl⟩
theorem Same.trans {K : Nat → Prop} {A B C : World} (h : Same K A B) (k : Same K B C) : Same K A C :=
 ⟨k.os.trans h.os, k.tape.trans h.tape, k.output.trans h.output, Nat.le_trans h.size k.size, fun i hi hl => (k.block i hi (Nat.lt_of_lt_of_le hl h.size)).trans (h.block i hi hl)⟩
theorem Same.mono {K K' : Nat → Prop} {A B : World} (h : Same K A B) (hk : ∀ k, K' k → K k) : Same K' A B := ⟨h.os, h.tape, h.output, h.size, fun i hi hl => h.block i (hk i hi) hl⟩
theorem Same.below {K : Nat → Prop} {A B : World} (h : Same K A B) (hk : ∀ k, k < A.heap.size → K k) : Below A.heap.size A B := ⟨h.os, h.tape, h.output, h.size, fun i hi => h.block i (hk i hi) hi⟩
theorem Same.of_below {K : Nat → Prop} {A B : World} (h : Below A.heap.size A B) : Same K A B := ⟨h.os, h.tape, h.output, h.size, fun i _ hl => h.block i hl⟩
theorem Same.setCell {K : Nat → Prop} (A : World) (p : Addr) (u : Value) (hp : ¬ K p.block) : Same K A (A.setCell p u) :=
 ⟨rfl, rfl, rfl, by simp [World.setCell], fun i hi _ => Below.heap_setCell A p u i (fun e => hp (e ▸ hi))⟩
theorem Same.drewN {K : Nat → Prop} (A : World) (n : Nat) : Same K A (A.drewN n) := ⟨rfl, rfl, rfl, Nat.le_refl _, fun _ _ _ => rfl⟩
theorem Same.blk {K : Nat → Prop} {A B : World} (h : Same K A B) {k : Nat} {o : Obj} (hb : A.heap[k]? = some o) (hk : K k) : B.heap[k]? = some o := (h.block k hk (blk_lt hb)).trans hb

/-- The blocks' numbers: the boxes of n, rows, columns, found, v, on; the rows' own blocks; the table's block and its capacity; the function value that is called. -/
structure Pt where
 (bn br bc bf bv bo R C V cv : Nat)
 fv : Value
 okV : Nat → Prop
def Pt.caps (q : Pt) : Array Value := #[.pointer (some ⟨q.bn, 0, none⟩), .pointer (some ⟨q.bc, 0, none⟩), .pointer (some ⟨q.bf, 0, none⟩), .pointer (some ⟨q.bv, 0, none⟩), .pointer (some ⟨q.br, 0, none⟩), .pointer (some ⟨q.bo, 0, none⟩)]
/-- What lies where: all of it between lo and hi, the rows and the table's rows apart from the boxes. -/
structure Pt.Fits (q : Pt) (lo hi : Nat) : Prop where
 hR : lo ≤ q.R ∧ q.R < hi
 hC : lo ≤ q.C ∧ q.C < hi
 hV : ∀ k, q.okV k → lo ≤ k ∧ k < hi ∧ k ≠ q.R ∧ k ≠ q.C ∧ k ≠ q.bn ∧ k ≠ q.br ∧ k ≠ q.bc ∧ k ≠ q.bf ∧ k ≠ q.bv ∧ k ≠ q.bo
 hRC : q.R ≠ q.C
 hRb : q.R ≠ q.bn ∧ q.R ≠ q.br ∧ q.R ≠ q.bc ∧ q.R ≠ q.bf ∧ q.R ≠ q.bv ∧ q.R ≠ q.bo
 hCb : q.C ≠ q.bn ∧ q.C ≠ q.br ∧ q.C ≠ q.bc ∧ q.C ≠ q.bf ∧ q.C ≠ q.bv ∧ q.C ≠ q.bo
 hb : (lo ≤ q.bn ∧ q.bn < hi) ∧ (lo ≤ q.br ∧ q.br < hi) ∧ (lo ≤ q.bc ∧ q.bc < hi) ∧ (lo ≤ q.bf ∧ q.bf < hi) ∧ (lo ≤ q.bv ∧ q.bv < hi) ∧ (lo ≤ q.bo ∧ q.bo < hi)

/-- The table, the sums of the rows and of the columns. -/
structure VS where
 t : List (List Int)
 rows : List Int
 cols : List Int

structure St (lo : Nat) (q : Pt) (n : Nat) (W : World) (s : VS) : Prop where
 bn : W.heap[q.bn]? = some (.cells #[.int .i64 n] 3 (0, 0))
 br : W.heap[q.br]? = some (.cells #[.slice (some ⟨q.R, 0, none⟩) n n] 28 (0, 0))
 bc : W.heap[q.bc]? = some (.cells #[.slice (some ⟨q.C, 0, none⟩) n n] 28 (0, 0))
 bf : W.heap[q.bf]? = some (.cells #[q.fv] 50 (0, 0))
 bv : W.heap[q.bv]? = some (.cells #[.slice (some ⟨q.V, 0, none⟩) n q.cv] 49 (0, 0))
 bo : W.heap[q.bo]? = some (.cells #[.func (.func 61) #[] q.caps] 65 (0, 0))
 rows : Kd.R (Kd.int .i64) 3 W lo (fun k => k = q.R) (.slice (some ⟨q.R, 0, none⟩) n n) s.rows
 cols : Kd.R (Kd.int .i64) 3 W lo (fun k => k = q.C) (.slice (some ⟨q.C, 0, none⟩) n n) s.cols
 tab : Kd.S (Kd.slice 3 (Kd.int .i64)) 28 W lo q.okV (.slice (some ⟨q.V, 0, none⟩) n q.cv) s.t
 wide : ∀ i, i < n → (s.t.getD i []).length = n

theorem St.same {lo hi : Nat} {q : Pt} {n : Nat} {W W' : World} {s : VS} (h : St lo q n W s) (f : q.Fits lo hi) (hs : Same (fun k => lo ≤ k ∧ k < hi) W W') : St lo q n W' s :=
 ⟨hs.blk h.bn f.hb.1, hs.blk h.br f.hb.2.1, hs.blk h.bc f.hb.2.2.1, hs.blk h.bf f.hb.2.2.2.1, hs.blk h.bv f.hb.2.2.2.2.1, hs.blk h.bo f.hb.2.2.2.2.2,
  Kd.R_step h.rows (fun k hk hl => hs.block k (by subst hk; exact f.hR) hl), Kd.R_step h.cols (fun k hk hl => hs.block k (by subst hk; exact f.hC) hl),
  Kd.S_step h.tab (fun k hk hl => hs.block k ⟨(f.hV k hk).1, (f.hV k hk).2.1⟩ hl), h.wide⟩
theorem St.lens {lo : Nat} {q : Pt} {n : Nat} {W : World} {s : VS} (h : St lo q n W s) : s.rows.length = n ∧ s.cols.length = n ∧ s.t.length = n :=
 ⟨(Kd.R_reads' h.rows).1.symm, (Kd.R_reads' h.cols).1.symm, (Kd.S_reads' h.tab).1.symm⟩
theorem St.setR {lo hi : Nat} {q : Pt} {n : Nat} {W : World} {s : VS} (h : St lo q n W s) (f : q.Fits lo hi) (i x : Int) :
 St lo q n (W.setCell ⟨q.R, i.toNat, none⟩ (.int .i64 x)) { s with rows := s.rows.set i.toNat x } := by
 obtain ⟨e1, e2, e3, e4, e5, e6⟩ := f.hRb
 exact ⟨blk_far h.bn (fun e => e1 e.symm) _, blk_far h.br (fun e => e2 e.symm) _, blk_far h.bc (fun e => e3 e.symm) _, blk_far h.bf (fun e => e4 e.symm) _, blk_far h.bv (fun e => e5 e.symm) _, blk_far h.bo (fun e => e6 e.symm) _,
  (Kd.R_putg h.rows i x).1, Kd.R_far h.cols (fun k hk => by subst hk; exact fun e => f.hRC e.symm) _, Kd.S_far h.tab (fun k hk => (f.hV k hk).2.2.1) _, h.wide⟩
theorem St.setC {lo hi : Nat} {q : Pt} {n : Nat} {W : World} {s : VS} (h : St lo q n W s) (f : q.Fits lo hi) (i x : Int) :
 St lo q n (W.setCell ⟨q.C, i.toNat, none⟩ (.int .i64 x)) { s with cols := s.cols.set i.toNat x } := by
 obtain ⟨e1, e2, e3, e4, e5, e6⟩ := f.hCb
 exact ⟨blk_far h.bn (fun e => e1 e.symm) _, blk_far h.br (fun e => e2 e.symm) _, blk_far h.bc (fun e => e3 e.symm) _, blk_far h.bf (fun e => e4 e.symm) _, blk_far h.bv (fun e => e5 e.symm) _, blk_far h.bo (fun e => e6 e.symm) _,
  Kd.R_far h.rows (fun k hk => by subst hk; exact f.hRC) _, (Kd.R_putg h.cols i x).1, Kd.S_far h.tab (fun k hk => (f.hV k hk).2.2.2.1) _, h.wide⟩
theorem St.row {lo : Nat} {q : Pt} {n : Nat} {W : World} {s : VS} (h : St lo q n W s) (i : Int) (h0 : 0 ≤ i) (h1 : i < n) : W.cell? ⟨q.R, i.toNat, none⟩ = some (.int .i64 (rd s.rows i)) ∧ W.frozen? ⟨q.R, i.toNat, none⟩ = false :=
 Kd.R_celln (0 : Int) h.rows i h0 h1
theorem St.col {lo : Nat} {q : Pt} {n : Nat} {W : World} {s : VS} (h : St lo q n W s) (i : Int) (h0 : 0 ≤ i) (h1 : i < n) : W.cell? ⟨q.C, i.toNat, none⟩ = some (.int .i64 (rd s.cols i)) ∧ W.frozen? ⟨q.C, i.toNat, none⟩ = false :=
 Kd.R_celln (0 : Int) h.cols i h0 h1

/-- A place of the table: where it lies, and how the state stands when a number is stored there. -/
theorem St.place {lo hi : Nat} {q : Pt} {n : Nat} {W : World} {s : VS} (h : St lo q n W s) (f : q.Fits lo hi) (i j : Int) (h0 : 0 ≤ i) (h1 : i < n) (j0 : 0 ≤ j) (j1 : j < n) :
 ∃ g c, W.cell? ⟨q.V, i.toNat, none⟩ = some (.slice (some ⟨g, 0, none⟩) n c) ∧ lo ≤ g ∧ g < hi ∧ W.cell? ⟨g, j.toNat, none⟩ = some (.int .i64 (rd (rd_L1 s.t i) j)) ∧ W.frozen? ⟨g, j.toNat, none⟩ = false ∧
  ∀ x : Int, St lo q n (W.setCell ⟨g, j.toNat, none⟩ (.int .i64 x)) { s with t := s.t.set i.toNat ((rd_L1 s.t i).set j.toNat x) } := by
 have hl := h.lens
 have hw : (rd_L1 s.t i).length = n := h.wide i.toNat (by omega)
 obtain ⟨oki, c, hcl, hM, hcc, hok, hbk⟩ := Kd.S_borrow h.tab [] i h0 h1
 obtain ⟨v, rfl, gv⟩ := hM
 have gv' : Kd.R (Kd.int .i64) 3 W lo oki v (rd_L1 s.t i) := gv
 obtain ⟨g, cap, rfl, hb, hlt, cells, hcells⟩ := Kd.R_form gv' (by omega)
 have hgo : oki g := gv'.1 g rfl
 have hgV := f.hV g (hok g hgo).1
 have hcell := hcc 0 _ rfl
 rw [Nat.add_zero, show ((Kd.slice 3 (Kd.int .i64))).sz = 1 from rfl, Nat.mul_one, add_plain, hw] at hcell
 rw [hw] at gv'
 obtain ⟨hx, hf⟩ := Kd.R_celln (0 : Int) gv' j j0 j1
 refine ⟨g, cap, hcell, hgV.1, hgV.2.1, hx, hf, fun x => ?_⟩
 have hp := Kd.R_putg gv' j x
 obtain ⟨_, _, nR, nC, n1, n2, n3, n4, n5, n6⟩ := hgV
 refine ⟨blk_far h.bn (fun e => n1 e.symm) _, blk_far h.br (fun e => n2 e.symm) _, blk_far h.bc (fun e => n3 e.symm) _, blk_far h.bf (fun e => n4 e.symm) _, blk_far h.bv (fun e => n5 e.symm) _, blk_far h.bo (fun e => n6 e.symm) _,
  Kd.R_far h.rows (fun k hk => by subst hk; exact fun e => nR e.symm) _, Kd.R_far h.cols (fun k hk => by subst hk; exact fun e => nC e.symm) _, ?_, ?_⟩
 · have hb2 := hbk hp.2 (fun k hk => by injection hk with hk; subst hk; exact hgo) (x' := (rd_L1 s.t i).set j.toNat x) (by
    have z := Kd.M_row (e := 3) hp.1
    rw [hw]
    exact z)
   exact hb2
 · intro m hm
   show ((s.t.set i.toNat ((rd_L1 s.t i).set j.toNat x)).getD m []).length = n
   rw [List.getD_eq_getElem?_getD, List.getElem?_set]
   by_cases e : i.toNat = m
   · rw [if_pos e, if_pos (by omega)]
     simp [hw]
   · rw [if_neg e, ← List.getD_eq_getElem?_getD]
     exact h.wide m hm
end Go.Proofs.Ytdinepghommchaa.V

-- Written by a program of this session over the kit's printer: wip/gp.py.
namespace Go.Proofs.Ytdinepghommchaa.V
open Go.RowKit Go.Proofs.YtdinepghommchaaW.PrintWords Go.Proofs.YtdinepghommchaaW.PrintLast Go.Proofs.YtdinepghommchaaW.PrintMore
attribute [local go_sem] max2_int min2_int max_two min_two max_three min_three max_four min_four   -- for this text's walks alone
set_option linter.unusedVariables false
set_option linter.unusedSimpArgs false

/-! ### slices_Min_int_int: function 62 -/
def slices_Min_int_int.l0 : Nat → List Int → Int → Int → Option (Int)
 | 0, _, _, _ => none
 | k + 1, x0, x3, x4 => if x4 < (x0.length : Int) then (if 0 ≤ x4 then (slices_Min_int_int.l0 k x0 (mn x3 (rd x0 x4)) (wrap64 (x4 + 1))) else (none)) else (some x3)
def slices_Min_int_int.f (k : Nat) (l0 : List Int) : Option (Int) := if (l0.length : Int) < 1 then (none) else (if 0 < (l0.length : Int) then (slices_Min_int_int.l0 k l0 (rd l0 0) 1) else (none))
set_option maxHeartbeats 8000000 in
set_option maxRecDepth 100000 in
theorem slices_Min_int_int.calls (k : Nat) (A0 : Option Addr) (c0 : Nat) (l0 : List Int) (r : Int) (w : World) (hr0 : Kd.C (Kd.int .i64) w A0 l0.length l0) (hc0 : l0.length ≤ c0) (h : slices_Min_int_int.f k l0 = some r) :
 Calls Try.prog 62 #[.slice A0 l0.length c0] w fun e w' => e = .returned (.int .i64 r) ∧ Below w.heap.size w w' := by
 have HR0 := Aside0.mk hr0
 have HC0 := Aside0.mk hc0
 clear hr0 hc0
 have HB := Aside0.mk (Below.refl w.heap.size w)
 have H : (if (l0.length : Int) < 1 then (none) else (if 0 < (l0.length : Int) then (slices_Min_int_int.l0 k l0 (rd l0 0) 1) else (none))) = some r := h
 clear h
 by_cases c2 : (l0.length : Int) < 1
 · rw [if_pos c2] at H
   exact absurd H (by simp)
 · rw [if_neg c2] at H
   have c2b0 : decide ((l0.length : Int) < 1) = false := decide_eq_false c2
   have c2b1 : decide (l0.length < 1) = false := decide_eq_false (by omega)
   clear c2
   by_cases c3 : 0 < (l0.length : Int)
   · rw [if_pos c3] at H
     have c3b0 : decide (0 < (l0.length : Int)) = true := decide_eq_true c3
     have c3b1 : decide (0 < l0.length) = true := decide_eq_true (by omega)
     clear c3
     have H' := Aside0.mk H
     clear H
     have p101 : 0 ≤ (0 : Int) := (by omega)
     have q101 : 0 < (l0.length : Int) := od_
     obtain ⟨ad101, e101, hx101_0⟩ := Kd.at_int HR0.out 0 p101 q101
     cases e101
     have qi101 : (0 < l0.length) = True := eq_true (by omega)
     (try rw [show ((0 : Int)).toNat = 0 from rfl] at hx101_0)
     (try rw [Addr.add_zero'] at hx101_0)
     replace p101 := eq_true p101
     replace q101 := eq_true q101
     go_enter Try.func62, Try.ntmps62
     go_wp2
     go_loopg [3, 4] k (fun kq v3 v4 w' => ∃ (x3_1 : Int) (x4_1 : Int), v3 = .int .i64 x3_1 ∧ v4 = .int .i64 x4_1 ∧ Aside0 (slices_Min_int_int.l0 kq l0 x3_1 x4_1 = some r) ∧ Aside0 (kq ≤ k) ∧ Aside0 (Below w.heap.size w w'))
     case atStart => exact ⟨(rd l0 0), (1), rf_, rf_, H', ⟨Nat.le_refl _⟩, ⟨bel_⟩⟩
     case round =>
      clear H'
      try clear p1
      try clear q1
      try clear hx1
      try clear qi1
      try clear c2
      try clear c2b0
      try clear c2b1
      try clear p2
      try clear c3
      try clear c3b0
      try clear c3b1
      try clear hx101_0
      try clear p101
      try clear q101
      obtain ⟨x3_1, x4_1, rfl, rfl, HA, HK1, HB⟩ := hrel
      cases gk with
      | zero => exact absurd HA.out (by simp [slices_Min_int_int.l0])
      | succ k1 =>
       have H := HA.out
       clear HA
       simp only [slices_Min_int_int.l0] at H
       by_cases c4 : x4_1 < (l0.length : Int)
       · rw [if_pos c4] at H
         have c4b0 : decide (x4_1 < (l0.length : Int)) = true := decide_eq_true c4
         clear c4
         by_cases c5 : 0 ≤ x4_1
         · rw [if_pos c5] at H
           have c5b0 : decide (0 ≤ x4_1) = true := decide_eq_true c5
           clear c5
           obtain ⟨ji6, hji6⟩ : ∃ j_ : Int, (mn x3_1 (rd l0 x4_1)) = j_ := ⟨_, rfl⟩
           replace H : (slices_Min_int_int.l0 k1 l0 ji6 (wrap64 (x4_1 + 1))) = some r := by first | (rw [hji6] at H; exact H) | (simp only [hji6] at H ⊢; exact H)
           have hji6_ : (if (rd l0 x4_1) < x3_1 then (rd l0 x4_1) else x3_1) = ji6 := hji6
           have H' := Aside0.mk H
           clear H
           obtain ⟨ad102, e102, hx102_0, p102, q102⟩ := ai_ HR0.out x4_1
           obtain rfl : ad101 = ad102 := (by injection e102)
           replace hx102_0 := (HB.out.cell (World.block_lt_of_cell? w _ hx102_0)).trans hx102_0
           go_wp2
           go_roundg k1
           case measure => have := HK1.out; omega
           case rel => exact ⟨(ji6), (wrap64 (x4_1 + 1)), (by first | rfl | (simp; done) | (simp only [← hji6] <;> (first | rfl | simp)) | (simp [*]; done)), rf_, H', ⟨by have := HK1.out; omega⟩, ⟨bel_⟩⟩
         · rw [if_neg c5] at H
           exact absurd H (by simp)
       · rw [if_neg c4] at H
         have c4b0 : decide (x4_1 < (l0.length : Int)) = false := decide_eq_false c4
         clear c4
         obtain rfl := Option.some.inj H
         go_wp2
         go_ret
         exact ⟨er_, bel_⟩
   · rw [if_neg c3] at H
     exact absurd H (by simp)

end Go.Proofs.Ytdinepghommchaa.V

/- The walk of the search's own closure (all$2), which calls itself through the variable that holds it: what it does to the state, and what it hands to the function that it was given. -/
namespace Go.Proofs.Ytdinepghommchaa.V
open Go.RowKit Go.Proofs.YtdinepghommchaaW.PrintWords Go.Proofs.YtdinepghommchaaW.PrintLast Go.Proofs.YtdinepghommchaaW.PrintMore
set_option linter.unusedVariables false
set_option linter.unusedSimpArgs false

/-- One number is tried at the place i, j. -/
def tryF {α : Type} (onK : Nat → VS → α → Option (VS × α)) (n p i j : Nat) (x : Int) (z : VS × α) : Option (VS × α) :=
 if wrap64 (rd z.1.rows (i : Int) + x) < 0 then some z
 else if 1 < wrap64 (rd z.1.rows (i : Int) + x) then some z
 else if wrap64 (rd z.1.cols (j : Int) + x) < 0 then some z
 else if 1 < wrap64 (rd z.1.cols (j : Int) + x) then some z
 else if (j : Int) = (n : Int) - 1 ∧ wrap64 (rd z.1.rows (i : Int) + x) ≠ 1 then some z
 else (onK (p + 1) ⟨z.1.t.set i ((rd_L1 z.1.t (i : Int)).set j x), z.1.rows.set i (wrap64 (rd z.1.rows (i : Int) + x)), z.1.cols.set j (wrap64 (rd z.1.cols (j : Int) + x))⟩ z.2).map fun y =>
  (⟨y.1.t, y.1.rows.set i (wrap64 (wrap64 (rd z.1.rows (i : Int) + x) - x)), y.1.cols.set j (wrap64 (wrap64 (rd z.1.cols (j : Int) + x) - x))⟩, y.2)
/-- The last k of the numbers -1, 0 and 1 are tried. -/
def restF {α : Type} (onK : Nat → VS → α → Option (VS × α)) (n p i j : Nat) : Nat → VS × α → Option (VS × α)
 | 0, z => some z
 | k + 1, z => (tryF onK n p i j (1 - (k : Int)) z).bind (restF onK n p i j k)
def onF {α : Type} (n : Nat) (found : List (List Int) → α → Option α) : Nat → Nat → VS → α → Option (VS × α)
 | 0, _, _, _ => none
 | k + 1, p, s, a =>
  if p = n * n then (slices_Min_int_int.f 1000 s.cols).bind fun m => if m = 1 then (found s.t a).map fun b => (s, b) else some (s, a)
  else restF (onF n found k) n p (p / n) (p % n) 3 (s, a)

/-- What the closure is called with. -/
def Pt.args (q : Pt) (p : Int) : Array Value := #[.int .i64 p, .pointer (some ⟨q.bn, 0, none⟩), .pointer (some ⟨q.bc, 0, none⟩), .pointer (some ⟨q.bf, 0, none⟩), .pointer (some ⟨q.bv, 0, none⟩), .pointer (some ⟨q.br, 0, none⟩), .pointer (some ⟨q.bo, 0, none⟩)]

/-- What is asked of the function that the search calls with each table. -/
structure Found {α : Type} (lo0 lo hi : Nat) (fid : FuncId) (caps : Array Value) (found : List (List Int) → α → Option α) (Acc : World → α → Prop) : Prop where
 goes : ∀ (W : World) (A : Option Addr) (c : Nat) (t : List (List Int)) (a b : α), hi ≤ W.heap.size → Kd.C (Kd.slice 3 (Kd.int .i64)) W A t.length t → t.length ≤ c → Acc W a → found t a = some b →
  Calls Try.prog fid (#[.slice A t.length c] ++ caps) W fun e W' => e = .returned (.tuple #[]) ∧ Acc W' b ∧ Same (fun k => k < lo0 ∨ (lo ≤ k ∧ k < hi)) W W'
 stays : ∀ (W W' : World) (a : α), Acc W a → Same (fun k => ¬ (lo ≤ k ∧ k < hi)) W W' → Acc W' a

set_option maxHeartbeats 400000 in
set_option maxRecDepth 100000 in
/-- At the end of the table. -/
theorem on_end {α : Type} {lo0 lo hi : Nat} {q : Pt} {n : Nat} {fid : FuncId} {fn : Func} {caps : Array Value} {found : List (List Int) → α → Option α} {Acc : World → α → Prop} (hn : 1 ≤ n ∧ n ≤ 1000) (f : q.Fits lo hi)
 (hfn : Try.prog.funcs[fid]? = some fn) (hnm : (fn.name == "runtime.NumGoroutine") = false) (hbd : fn.body.isSome = true) (hfv : q.fv = .func (.func fid) #[] caps) (F : Found lo0 lo hi fid caps found Acc)
 (s : VS) (a b : α) (m : Int) (W : World) (hs : Aside0 (St lo q n W s)) (hw : Aside0 (hi ≤ W.heap.size)) (ha : Aside0 (Acc W a)) (hm : Aside0 (slices_Min_int_int.f 1000 s.cols = some m))
 (hb : Aside0 (if m = 1 then found s.t a = some b else b = a)) :
 Calls Try.prog 61 (q.args ((n * n : Nat) : Int)) W fun e W' => e = .returned (.tuple #[]) ∧ St lo q n W' s ∧ Acc W' b ∧ Same (fun k => k < lo0) W W' := by
 have cn : W.cell? ⟨q.bn, 0, none⟩ = some (.int .i64 n) := (blk_cell hs.out.bn 0).trans rfl
 have cc : W.cell? ⟨q.bc, 0, none⟩ = some (.slice (some ⟨q.C, 0, none⟩) n n) := (blk_cell hs.out.bc 0).trans rfl
 have cf : W.cell? ⟨q.bf, 0, none⟩ = some (.func (.func fid) #[] caps) := by rw [← hfv]; exact (blk_cell hs.out.bf 0).trans rfl
 have cv : W.cell? ⟨q.bv, 0, none⟩ = some (.slice (some ⟨q.V, 0, none⟩) n q.cv) := (blk_cell hs.out.bv 0).trans rfl
 have hcf : ∀ (args : Array Value) (w : World), (callFunc fid args).run Try.prog w = .ok (.enter fid args) w := enters_ hfn hnm hbd
 have e0 : ((n * n : Nat) : Int) = (n : Int) * n := by simp
 have n1 : 1 ≤ (n : Int) := by omega
 have n2 : (n : Int) ≤ 1000 := by omega
 have hl := hs.out.lens
 have HM : Aside0 (∀ w1, Kd.C (Kd.int .i64) w1 (some ⟨q.C, 0, none⟩) s.cols.length s.cols → Calls Try.prog 62 #[.slice (some ⟨q.C, 0, none⟩) n n] w1 (fun e w' => e = .returned (.int .i64 m) ∧ Below w1.heap.size w1 w')) :=
  ⟨fun w1 h => by have z := slices_Min_int_int.calls 1000 (some ⟨q.C, 0, none⟩) n s.cols m w1 h (by omega) hm.out; rwa [hl.2.1] at z⟩
 have HG : Aside0 (∀ (W' : World), Below W.heap.size W W' → found s.t a = some b → Calls Try.prog fid (#[.slice (some ⟨q.V, 0, none⟩) n q.cv] ++ caps) W' fun e w' => e = .returned (.tuple #[]) ∧ Acc w' b ∧ Same (fun k => k < lo0 ∨ (lo ≤ k ∧ k < hi)) W' w') :=
  ⟨fun W' hd hf => by
   have z := F.goes W' (some ⟨q.V, 0, none⟩) q.cv s.t a b (Nat.le_trans hw.out hd.size) (Kd.C_below (Kd.S_reads' hs.out.tab).2.2 hd) (by have z := (Kd.S_reads' hs.out.tab).2.1; omega) (F.stays _ _ _ ha.out (Same.of_below hd)) hf
   rwa [hl.2.2] at z⟩
 have hq : ((n : Int) * n == wrap64 ((n : Int) * n)) = true := by
  have h1 : (n : Int) * n ≤ 1000 * 1000 := Int.mul_le_mul n2 n2 (by omega) (by omega)
  have h2 : 0 ≤ (n : Int) * n := Int.mul_nonneg (by omega) (by omega)
  simp only [beq_iff_eq]
  unfold wrap64
  omega
 have HL := Aside0.mk hl
 clear hl
 rw [e0]
 clear e0
 unfold Pt.args
 by_cases e1 : m = 1
 · have hb' := hb.out
   rw [if_pos e1] at hb'
   have HB := Aside0.mk hb'
   subst e1
   clear hb'
   go_enter Try.func61, Try.ntmps61
   go_wp2_with (first | (go_at_call 62; refine (HM.out _ (Kd.R_reads' hs.out.cols).2.2).mono ?_; rintro e w' ⟨rfl, hbw⟩; have HW := Aside0.mk hbw; have cf1 := pw_cell_below hbw cf; have cv1 := pw_cell_below hbw cv; clear hbw) | (refine (HG.out _ HW.out HB.out).mono ?_; rintro e w' ⟨rfl, hacc, hsame⟩))
   all_goals (first | go_end0 | ((try simp only [Exit.inBlock, Exit.then]); refine bodyPost_ret (results_none rfl _ _ _) rfl ?_))
   all_goals exact ⟨rfl, (hs.out.same f (Same.of_below HW.out)).same f (hsame.mono (fun k hk => .inr hk)), hacc, (Same.of_below HW.out).trans (hsame.mono (fun k hk => .inl hk))⟩
 · have hb' := hb.out
   rw [if_neg e1] at hb'
   subst hb'
   have e2 : (m == 1) = false := by simpa using e1
   clear e1
   go_enter Try.func61, Try.ntmps61
   go_wp2_with (first | (go_at_call 62; refine (HM.out _ (Kd.R_reads' hs.out.cols).2.2).mono ?_; rintro e w' ⟨rfl, hbw⟩; have HW := Aside0.mk hbw; have cf1 := pw_cell_below hbw cf; have cv1 := pw_cell_below hbw cv; clear hbw))
   all_goals (first | go_end0 | ((try simp only [Exit.inBlock, Exit.then]); refine bodyPost_ret (results_none rfl _ _ _) rfl ?_))
   all_goals exact ⟨rfl, hs.out.same f (Same.of_below HW.out), F.stays _ _ _ ha.out (Same.of_below HW.out), Same.of_below HW.out⟩

theorem named {P : Program} {c : Code} {Q : Exit → Act → World → Prop} {a : Act} {w : World} (R : World → Prop) (h : R w) (k : ∀ w', R w' → Code.wp P c Q a w') : Code.wp P c Q a w := k w h

set_option maxHeartbeats 1000000 in
set_option maxRecDepth 100000 in
theorem on_step {α : Type} {lo0 lo hi : Nat} {q : Pt} {n : Nat} {fid : FuncId} {caps : Array Value} {found : List (List Int) → α → Option α} {Acc : World → α → Prop} (hn : 1 ≤ n ∧ n ≤ 1000) (f : q.Fits lo hi) (F : Found lo0 lo hi fid caps found Acc) (h01 : lo0 ≤ lo)
 (onK : Nat → VS → α → Option (VS × α))
 (ih : Aside0 (∀ (p : Nat) (s s' : VS) (a a' : α) (W : World), p ≤ n * n → St lo q n W s → hi ≤ W.heap.size → Acc W a → onK p s a = some (s', a') → Calls Try.prog 61 (q.args p) W fun e W' => e = .returned (.tuple #[]) ∧ St lo q n W' s' ∧ Acc W' a' ∧ Same (fun k => k < lo0) W W'))
 (p i j : Nat) (hp : p < n * n) (hi0 : Aside0 (i = p / n)) (hj0 : Aside0 (j = p % n)) (s s' : VS) (a a' : α) (W : World) (hs : Aside0 (St lo q n W s)) (hw : Aside0 (hi ≤ W.heap.size)) (ha : Aside0 (Acc W a))
 (hr : Aside0 (restF onK n p i j 3 (s, a) = some (s', a'))) :
 Calls Try.prog 61 (q.args p) W fun e W' => e = .returned (.tuple #[]) ∧ St lo q n W' s' ∧ Acc W' a' ∧ Same (fun k => k < lo0) W W' := by
 have cn : W.cell? ⟨q.bn, 0, none⟩ = some (.int .i64 n) := (blk_cell hs.out.bn 0).trans rfl
 have n1 : 1 ≤ (n : Int) := by omega
 have n2 : (n : Int) ≤ 1000 := by omega
 have h1 : (n : Int) * n ≤ 1000 * 1000 := Int.mul_le_mul n2 n2 (by omega) (by omega)
 have h2 : 0 ≤ (n : Int) * n := Int.mul_nonneg (by omega) (by omega)
 have hq0 : wrap64 ((n : Int) * n) = (n : Int) * n := by unfold wrap64; omega
 have hnn : ((n * n : Nat) : Int) = (n : Int) * n := by simp
 have hp' : (p : Int) < (n : Int) * n := by omega
 have hq : ((p : Int) == wrap64 ((n : Int) * n)) = false := by
   rw [hq0]
   simp only [beq_eq_false_iff_ne]
   omega
 have hn0 : ¬ ((n : Int) = 0) := by omega
 have i1 : i < n := by rw [hi0.out]; exact Nat.div_lt_of_lt_mul hp
 have j1 : j < n := by rw [hj0.out]; exact Nat.mod_lt _ (by omega)
 have hI : wrap64 ((p : Int) / (n : Int)) = (i : Int) := by
   have e : ((p : Int) / (n : Int)) = (i : Int) := by rw [hi0.out]; simp
   rw [e]
   unfold wrap64
   omega
 have hJ : (p : Int) % (n : Int) = (j : Int) := by rw [hj0.out]; simp
 have P1 := Aside0.mk hp
 have P2 := Aside0.mk hp'
 have P3 := Aside0.mk hnn
 clear hq0 h1 h2 hp hp' hnn
 unfold Pt.args
 go_enter Try.func61, Try.ntmps61
 go_wp2_with (fail)
 go_quiet (fail)
 go_wp2
 simp only [hI, hJ]
 go_loopg [10] 3 (fun kq v10 w' => ∃ (x : Int) (s1 : VS) (a1 : α), v10 = .int .i64 x ∧ -1 ≤ x ∧ x ≤ 2 ∧ Aside0 (x = 2 - (kq : Int)) ∧ Aside0 (kq ≤ 3) ∧ Aside0 (restF onK n p i j kq (s1, a1) = some (s', a')) ∧ Aside0 (St lo q n w' s1) ∧ Aside0 (hi ≤ w'.heap.size) ∧ Aside0 (Acc w' a1) ∧ Aside0 (Same (fun k => k < lo0) W w'))
 case atStart => exact ⟨-1, s, a, rfl, by omega, by omega, ⟨by omega⟩, ⟨by omega⟩, hr, ⟨hs.out.same f (Same.drewN _ _)⟩, hw, ⟨F.stays _ _ _ ha.out (Same.drewN _ _)⟩, ⟨Same.drewN _ _⟩⟩
 case round =>
   clear cn hq hI hJ hr hs ha hw
   obtain ⟨x, s1, a1, rfl, x0, x2, X, HK, HA, HS, HW, HC, HF⟩ := hrel
   cases gk with
   | zero =>
    have hx : decide (x ≤ 1) = false := decide_eq_false (by have := X.out; omega)
    have H := Option.some.inj HA.out
    obtain ⟨rfl, rfl⟩ := Prod.mk.inj H
    clear HA H
    go_wp2
    first | go_end0 | ((try simp only [Exit.inBlock, Exit.then]); refine bodyPost_ret (results_none rfl _ _ _) rfl ?_)
    exact ⟨rfl, HS.out, HC.out, HF.out⟩
   | succ k1 =>
    have hx : decide (x ≤ 1) = true := decide_eq_true (by have := X.out; omega)
    have hx1 : (1 - (k1 : Int)) = x := by have := X.out; omega
    have H := HA.out
    clear HA
    simp only [restF] at H
    rw [hx1] at H
    obtain ⟨z, hz, H⟩ := Option.bind_eq_some_iff.mp H
    have HR := Aside0.mk H
    have HX := Aside0.mk hx1
    clear H hx1
    unfold tryF at hz
    have hwr : ∃ W1 : World, wr = W1 := ⟨_, rfl⟩
    have cr := (blk_cell HS.out.br 0).trans (rfl : _ = some (Value.slice (some ⟨q.R, 0, none⟩) n n))
    have cc := (blk_cell HS.out.bc 0).trans (rfl : _ = some (Value.slice (some ⟨q.C, 0, none⟩) n n))
    have cn := (blk_cell HS.out.bn 0).trans (rfl : _ = some (Value.int .i64 n))
    have xr := (HS.out.row (i : Int) (by omega) (by omega)).1
    have xc := (HS.out.col (j : Int) (by omega) (by omega)).1
    rw [Int.toNat_natCast] at xr xc
    have i2 : decide (i < n) = true := decide_eq_true i1
    have j2 : decide (j < n) = true := decide_eq_true j1
    have i3 : decide ((i : Int) < (n : Int)) = true := decide_eq_true (by omega)
    have j3 : decide ((j : Int) < (n : Int)) = true := decide_eq_true (by omega)
    have iw := i64_w
    generalize er : wrap64 (rd s1.rows (i : Int) + x) = r at hz
    generalize ec : wrap64 (rd s1.cols (j : Int) + x) = c at hz
    go_wp2_with (fail)
    go_quiet (fail)
    have ER := Aside0.mk er
    have EC := Aside0.mk ec
    have hn1 : wrap64 ((n : Int) - 1) = (n : Int) - 1 := by unfold wrap64; omega
    clear er ec xr xc cr cc iw hwr
    by_cases c1 : r < 0
    · rw [if_pos c1] at hz
      obtain rfl := Option.some.inj hz
      have d1 : decide (r < 0) = true := decide_eq_true c1
      clear hz c1
      go_wp2
      go_roundg k1
      case measure => have := HK.out; omega
      case rel => exact ⟨x + 1, s1, a1, rfl, by omega, by have := X.out; omega, ⟨by have := X.out; omega⟩, ⟨by have := HK.out; omega⟩, HR, ⟨HS.out.same f (Same.drewN _ _)⟩, HW, ⟨F.stays _ _ _ HC.out (Same.drewN _ _)⟩, ⟨HF.out.trans (Same.drewN _ _)⟩⟩
    · rw [if_neg c1] at hz
      have d1 : decide (r < 0) = false := decide_eq_false c1
      clear c1
      by_cases c1 : 1 < r
      · rw [if_pos c1] at hz
        obtain rfl := Option.some.inj hz
        have d2 : decide (1 < r) = true := decide_eq_true c1
        clear hz c1
        go_wp2
        go_roundg k1
        case measure => have := HK.out; omega
        case rel => exact ⟨x + 1, s1, a1, rfl, by omega, by have := X.out; omega, ⟨by have := X.out; omega⟩, ⟨by have := HK.out; omega⟩, HR, ⟨HS.out.same f (Same.drewN _ _)⟩, HW, ⟨F.stays _ _ _ HC.out (Same.drewN _ _)⟩, ⟨HF.out.trans (Same.drewN _ _)⟩⟩
      · rw [if_neg c1] at hz
        have d2 : decide (1 < r) = false := decide_eq_false c1
        clear c1
        by_cases c1 : c < 0
        · rw [if_pos c1] at hz
          obtain rfl := Option.some.inj hz
          have d3 : decide (c < 0) = true := decide_eq_true c1
          clear hz c1
          go_wp2
          go_roundg k1
          case measure => have := HK.out; omega
          case rel => exact ⟨x + 1, s1, a1, rfl, by omega, by have := X.out; omega, ⟨by have := X.out; omega⟩, ⟨by have := HK.out; omega⟩, HR, ⟨HS.out.same f (Same.drewN _ _)⟩, HW, ⟨F.stays _ _ _ HC.out (Same.drewN _ _)⟩, ⟨HF.out.trans (Same.drewN _ _)⟩⟩
        · rw [if_neg c1] at hz
          have d3 : decide (c < 0) = false := decide_eq_false c1
          clear c1
          by_cases c1 : 1 < c
          · rw [if_pos c1] at hz
            obtain rfl := Option.some.inj hz
            have d4 : decide (1 < c) = true := decide_eq_true c1
            clear hz c1
            go_wp2
            go_roundg k1
            case measure => have := HK.out; omega
            case rel => exact ⟨x + 1, s1, a1, rfl, by omega, by have := X.out; omega, ⟨by have := X.out; omega⟩, ⟨by have := HK.out; omega⟩, HR, ⟨HS.out.same f (Same.drewN _ _)⟩, HW, ⟨F.stays _ _ _ HC.out (Same.drewN _ _)⟩, ⟨HF.out.trans (Same.drewN _ _)⟩⟩
          · rw [if_neg c1] at hz
            have d4 : decide (1 < c) = false := decide_eq_false c1
            clear c1
            by_cases c1 : (j : Int) = (n : Int) - 1 ∧ r ≠ 1
            · rw [if_pos c1] at hz
              obtain rfl := Option.some.inj hz
              have d5 : ((j : Int) == (n : Int) - 1) = true := by simpa using c1.1
              have d6 : (r != 1) = true := by simpa using c1.2
              clear hz c1
              go_wp2
              go_roundg k1
              case measure => have := HK.out; omega
              case rel => exact ⟨x + 1, s1, a1, rfl, by omega, by have := X.out; omega, ⟨by have := X.out; omega⟩, ⟨by have := HK.out; omega⟩, HR, ⟨HS.out.same f (Same.drewN _ _)⟩, HW, ⟨F.stays _ _ _ HC.out (Same.drewN _ _)⟩, ⟨HF.out.trans (Same.drewN _ _)⟩⟩
            · rw [if_neg c1] at hz
              obtain ⟨y, hy, rfl⟩ := Option.map_eq_some_iff.mp hz
              have HY := Aside0.mk hy
              clear hz hy
              obtain ⟨g, c9, hv, hg1, hg2, hx9, hf9, hput⟩ := HS.out.place f (i : Int) (j : Int) (by omega) (by omega) (by omega) (by omega)
              rw [Int.toNat_natCast] at hv hx9 hf9
              have cv := (blk_cell HS.out.bv 0).trans (rfl : _ = some (Value.slice (some ⟨q.V, 0, none⟩) n q.cv))
              have HPUT := Aside0.mk hput
              have HG1 := Aside0.mk (And.intro hg1 hg2)
              clear hput hg1 hg2
              have d7 : ((j : Int) == (n : Int) - 1) = false ∨ (((j : Int) == (n : Int) - 1) = true ∧ (r != 1) = false) := by
               by_cases e : (j : Int) = (n : Int) - 1
               · right
                 refine ⟨by simpa using e, ?_⟩
                 by_cases e2 : r = 1
                 · simp [e2]
                 · exact absurd ⟨e, e2⟩ c1
               · left
                 simpa using e
              clear c1
              have hlo0 : ∀ k, k < lo0 → ¬ (lo ≤ k ∧ k < hi) := fun k hk => by omega
              have HLO := Aside0.mk hlo0
              clear hlo0
              rcases d7 with d5 | ⟨d5, d6⟩
              all_goals
               go_wp2
               refine named (fun w' => St lo q n w' ⟨s1.t.set i ((rd_L1 s1.t (i : Int)).set j x), s1.rows, s1.cols⟩ ∧ hi ≤ w'.heap.size ∧ Acc w' a1 ∧ Same (fun k => k < lo0) W w') ?_ ?_
               · exact ⟨(HPUT.out x).same f (Same.drewN _ nq), by simpa [World.setCell, World.drewN] using HW.out, F.stays _ _ _ HC.out ((Same.setCell _ ⟨g, j, none⟩ _ (fun hk => hk HG1.out)).trans (Same.drewN _ nq)), HF.out.trans ((Same.setCell _ ⟨g, j, none⟩ _ (fun hk => HLO.out _ hk HG1.out)).trans (Same.drewN _ nq))⟩
               · intro w2 hR2
                 obtain ⟨S2, W2, C2, F2⟩ := hR2
                 clear hv hx9 hf9 cv cn d1 d2 d3 d4 d5
                 try clear d6
                 have cr := (blk_cell S2.br 0).trans (rfl : _ = some (Value.slice (some ⟨q.R, 0, none⟩) n n))
                 have cc := (blk_cell S2.bc 0).trans (rfl : _ = some (Value.slice (some ⟨q.C, 0, none⟩) n n))
                 have xr := S2.row (i : Int) (by omega) (by omega)
                 have xc := S2.col (j : Int) (by omega) (by omega)
                 rw [Int.toNat_natCast] at xr xc
                 obtain ⟨xr1, xr2⟩ := xr
                 obtain ⟨xc1, xc2⟩ := xc
                 obtain ⟨ys1, ys2⟩ := (S2.setR f (i : Int) r).col (j : Int) (by omega) (by omega)
                 obtain ⟨zs1, zs2⟩ := (S2.setC f (j : Int) c).row (i : Int) (by omega) (by omega)
                 rw [Int.toNat_natCast, Int.toNat_natCast] at ys1 ys2 zs1 zs2
                 have cc2 := (blk_cell (S2.setR f (i : Int) r).bc 0).trans (rfl : _ = some (Value.slice (some ⟨q.C, 0, none⟩) n n))
                 have cr2 := (blk_cell (S2.setC f (j : Int) c).br 0).trans (rfl : _ = some (Value.slice (some ⟨q.R, 0, none⟩) n n))
                 rw [Int.toNat_natCast] at cc2 cr2
                 have HS2 := Aside0.mk S2
                 have HW2 := Aside0.mk W2
                 have HC2 := Aside0.mk C2
                 have HF2 := Aside0.mk F2
                 clear S2 W2 C2 F2
                 go_region
                 have R3 : St lo q n (((w2.setCell ⟨q.R, i, none⟩ (.int .i64 r)).setCell ⟨q.C, j, none⟩ (.int .i64 c)).drew) ⟨s1.t.set i ((rd_L1 s1.t (i : Int)).set j x), s1.rows.set i r, s1.cols.set j c⟩ ∧ hi ≤ (((w2.setCell ⟨q.R, i, none⟩ (.int .i64 r)).setCell ⟨q.C, j, none⟩ (.int .i64 c)).drew).heap.size ∧ Acc (((w2.setCell ⟨q.R, i, none⟩ (.int .i64 r)).setCell ⟨q.C, j, none⟩ (.int .i64 c)).drew) a1 ∧ Same (fun k => k < lo0) W (((w2.setCell ⟨q.R, i, none⟩ (.int .i64 r)).setCell ⟨q.C, j, none⟩ (.int .i64 c)).drew) :=
                  ⟨((HS2.out.setR f (i : Int) r).setC f (j : Int) c).same f (Same.drewN _ 1), by simpa [World.setCell, World.drew] using HW2.out, F.stays _ _ _ HC2.out (((Same.setCell _ ⟨q.R, i, none⟩ _ (fun hk => hk f.hR)).trans (Same.setCell _ ⟨q.C, j, none⟩ _ (fun hk => hk f.hC))).trans (Same.drewN _ 1)), HF2.out.trans (((Same.setCell _ ⟨q.R, i, none⟩ _ (fun hk => HLO.out _ hk f.hR)).trans (Same.setCell _ ⟨q.C, j, none⟩ _ (fun hk => HLO.out _ hk f.hC))).trans (Same.drewN _ 1))⟩
                 clear xr1 xr2 xc1 xc2 ys1 ys2 zs1 zs2 cc2 cr2 cr cc HS2 HW2 HC2 HF2
                 revert R3
                 generalize (((w2.setCell ⟨q.R, i, none⟩ (.int .i64 r)).setCell ⟨q.C, j, none⟩ (.int .i64 c)).drew) = w3
                 intro R3
                 obtain ⟨S3, W3, C3, F3⟩ := R3
                 have co := (blk_cell S3.bo 0).trans (rfl : _ = some (Value.func (.func 61) #[] #[.pointer (some ⟨q.bn, 0, none⟩), .pointer (some ⟨q.bc, 0, none⟩), .pointer (some ⟨q.bf, 0, none⟩), .pointer (some ⟨q.bv, 0, none⟩), .pointer (some ⟨q.br, 0, none⟩), .pointer (some ⟨q.bo, 0, none⟩)]))
                 have HI : Aside0 (Calls Try.prog 61 #[.int .i64 ((p : Int) + 1), .pointer (some ⟨q.bn, 0, none⟩), .pointer (some ⟨q.bc, 0, none⟩), .pointer (some ⟨q.bf, 0, none⟩), .pointer (some ⟨q.bv, 0, none⟩), .pointer (some ⟨q.br, 0, none⟩), .pointer (some ⟨q.bo, 0, none⟩)] w3 fun e W' => e = .returned (.tuple #[]) ∧ St lo q n W' y.1 ∧ Acc W' y.2 ∧ Same (fun k => k < lo0) w3 W') := ⟨by
                  have z := ih.out (p + 1) _ y.1 _ y.2 w3 (by have := P1.out; omega) S3 W3 C3 HY.out
                  rw [show ((p + 1 : Nat) : Int) = (p : Int) + 1 from by omega] at z
                  exact z⟩
                 have HW3 := Aside0.mk W3
                 have HF3 := Aside0.mk F3
                 clear S3 W3 C3 F3
                 have p0 : 0 ≤ (p : Int) := by omega
                 have p1 : (p : Int) ≤ 1000000 := by
                  have h1 : (n : Int) * n ≤ 1000 * 1000 := Int.mul_le_mul n2 n2 (by omega) (by omega)
                  have := P2.out
                  omega
                 go_wp2_with (go_at_call 61; refine HI.out.mono ?_; rintro e w4 ⟨rfl, S4, C4, F4⟩; have HS4 := Aside0.mk S4; have HC4 := Aside0.mk C4; have HF4 := Aside0.mk F4; clear S4 C4 F4)
                 clear co p0 p1
                 have cr := (blk_cell HS4.out.br 0).trans (rfl : _ = some (Value.slice (some ⟨q.R, 0, none⟩) n n))
                 have cc := (blk_cell HS4.out.bc 0).trans (rfl : _ = some (Value.slice (some ⟨q.C, 0, none⟩) n n))
                 obtain ⟨xr1, xr2⟩ := HS4.out.row (i : Int) (by omega) (by omega)
                 obtain ⟨xc1, xc2⟩ := HS4.out.col (j : Int) (by omega) (by omega)
                 obtain ⟨ys1, ys2⟩ := (HS4.out.setR f (i : Int) (wrap64 (r - x))).col (j : Int) (by omega) (by omega)
                 obtain ⟨zs1, zs2⟩ := (HS4.out.setC f (j : Int) (wrap64 (c - x))).row (i : Int) (by omega) (by omega)
                 have cc2 := (blk_cell (HS4.out.setR f (i : Int) (wrap64 (r - x))).bc 0).trans (rfl : _ = some (Value.slice (some ⟨q.C, 0, none⟩) n n))
                 have cr2 := (blk_cell (HS4.out.setC f (j : Int) (wrap64 (c - x))).br 0).trans (rfl : _ = some (Value.slice (some ⟨q.R, 0, none⟩) n n))
                 rw [Int.toNat_natCast] at xr1 xr2 xc1 xc2 cc2 cr2
                 rw [Int.toNat_natCast, Int.toNat_natCast] at ys1 ys2 zs1 zs2
                 have iw := i64_w
                 go_region
                 have R5 : St lo q n (((w4.setCell ⟨q.R, i, none⟩ (.int .i64 (wrap64 (r - x)))).setCell ⟨q.C, j, none⟩ (.int .i64 (wrap64 (c - x)))).drew) ⟨y.1.t, y.1.rows.set i (wrap64 (r - x)), y.1.cols.set j (wrap64 (c - x))⟩ ∧ hi ≤ (((w4.setCell ⟨q.R, i, none⟩ (.int .i64 (wrap64 (r - x)))).setCell ⟨q.C, j, none⟩ (.int .i64 (wrap64 (c - x)))).drew).heap.size ∧ Acc (((w4.setCell ⟨q.R, i, none⟩ (.int .i64 (wrap64 (r - x)))).setCell ⟨q.C, j, none⟩ (.int .i64 (wrap64 (c - x)))).drew) y.2 ∧ Same (fun k => k < lo0) W (((w4.setCell ⟨q.R, i, none⟩ (.int .i64 (wrap64 (r - x)))).setCell ⟨q.C, j, none⟩ (.int .i64 (wrap64 (c - x)))).drew) :=
                  ⟨((HS4.out.setR f (i : Int) (wrap64 (r - x))).setC f (j : Int) (wrap64 (c - x))).same f (Same.drewN _ 1), by have := HW3.out; have := HF4.out.size; simp [World.setCell, World.drew]; omega, F.stays _ _ _ HC4.out (((Same.setCell _ ⟨q.R, i, none⟩ _ (fun hk => hk f.hR)).trans (Same.setCell _ ⟨q.C, j, none⟩ _ (fun hk => hk f.hC))).trans (Same.drewN _ 1)), (HF3.out.trans HF4.out).trans (((Same.setCell _ ⟨q.R, i, none⟩ _ (fun hk => HLO.out _ hk f.hR)).trans (Same.setCell _ ⟨q.C, j, none⟩ _ (fun hk => HLO.out _ hk f.hC))).trans (Same.drewN _ 1))⟩
                 clear xr1 xr2 xc1 xc2 ys1 ys2 zs1 zs2 cc2 cr2 cr cc HS4 HC4
                 revert R5
                 generalize (((w4.setCell ⟨q.R, i, none⟩ (.int .i64 (wrap64 (r - x)))).setCell ⟨q.C, j, none⟩ (.int .i64 (wrap64 (c - x)))).drew) = w5
                 intro R5
                 obtain ⟨S5, W5, C5, F5⟩ := R5
                 have HS5 := Aside0.mk S5
                 have HW5 := Aside0.mk W5
                 have HC5 := Aside0.mk C5
                 have HF5 := Aside0.mk F5
                 clear S5 W5 C5 F5 iw
                 go_wp2
                 go_roundg k1
                 case measure => have := HK.out; omega
                 case rel => exact ⟨x + 1, _, y.2, rfl, by omega, by have := X.out; omega, ⟨by have := X.out; omega⟩, ⟨by have := HK.out; omega⟩, HR, HS5, HW5, HC5, HF5⟩


set_option maxHeartbeats 400000 in
/-- The search: from a place on, whatever is called with the tables. -/
theorem on_calls {α : Type} {lo0 lo hi : Nat} {q : Pt} {n : Nat} {fid : FuncId} {fn : Func} {caps : Array Value} {found : List (List Int) → α → Option α} {Acc : World → α → Prop} (hn : 1 ≤ n ∧ n ≤ 1000) (f : q.Fits lo hi)
 (hfn : Try.prog.funcs[fid]? = some fn) (hnm : (fn.name == "runtime.NumGoroutine") = false) (hbd : fn.body.isSome = true) (hfv : q.fv = .func (.func fid) #[] caps) (F : Found lo0 lo hi fid caps found Acc) (h01 : lo0 ≤ lo) (k : Nat) :
 ∀ (p : Nat) (s s' : VS) (a a' : α) (W : World), p ≤ n * n → St lo q n W s → hi ≤ W.heap.size → Acc W a → onF n found k p s a = some (s', a') →
  Calls Try.prog 61 (q.args p) W fun e W' => e = .returned (.tuple #[]) ∧ St lo q n W' s' ∧ Acc W' a' ∧ Same (fun k => k < lo0) W W' := by
 induction k with
 | zero => intro p s s' a a' W hp hs hw ha h; simp [onF] at h
 | succ k ih =>
  intro p s s' a a' W hp hs hw ha h
  simp only [onF] at h
  by_cases e : p = n * n
  · rw [if_pos e] at h
    subst e
    obtain ⟨m, hm, h⟩ := Option.bind_eq_some_iff.mp h
    by_cases e1 : m = 1
    · rw [if_pos e1] at h
      obtain ⟨b, hb, hz⟩ := Option.map_eq_some_iff.mp h
      obtain ⟨rfl, rfl⟩ := Prod.mk.inj hz
      exact on_end hn f hfn hnm hbd hfv F s a b m W ⟨hs⟩ ⟨hw⟩ ⟨ha⟩ ⟨hm⟩ ⟨by rw [if_pos e1]; exact hb⟩
    · rw [if_neg e1] at h
      obtain ⟨rfl, rfl⟩ := Prod.mk.inj (Option.some.inj h)
      exact on_end hn f hfn hnm hbd hfv F s a a m W ⟨hs⟩ ⟨hw⟩ ⟨ha⟩ ⟨hm⟩ ⟨by rw [if_neg e1]⟩
  · rw [if_neg e] at h
    exact on_step hn f F h01 (onF n found k) ⟨ih⟩ p (p / n) (p % n) (by omega) ⟨rfl⟩ ⟨rfl⟩ s s' a a' W ⟨hs⟩ ⟨hw⟩ ⟨ha⟩ ⟨h⟩
end Go.Proofs.Ytdinepghommchaa.V

-- Written by a program of this session over the kit's printer: wip/gp.py.
namespace Go.Proofs.Ytdinepghommchaa.V
open Go.RowKit Go.Proofs.YtdinepghommchaaW.PrintWords Go.Proofs.YtdinepghommchaaW.PrintLast Go.Proofs.YtdinepghommchaaW.PrintMore
attribute [local go_sem] max2_int min2_int max_two min_two max_three min_three max_four min_four   -- for this text's walks alone
set_option linter.unusedVariables false
set_option linter.unusedSimpArgs false

/-! ### veils_made_int: function 59 -/
mutual
def veils_made_int.l0 (g : Int → Int → Option Int) : Nat → Int → List (List Int) → Int → Int → Option ((List (List Int)))
 | 0, _, _, _, _ => none
 | k + 1, x0, x5, x11, x12 => if x12 < x11 then (veils_made_int.l1 g k x0 x5 x12 x11 x12 x0 0) else (some x5)
def veils_made_int.l1 (g : Int → Int → Option Int) : Nat → Int → List (List Int) → Int → Int → Int → Int → Int → Option ((List (List Int)))
 | 0, _, _, _, _, _, _, _ => none
 | k + 1, x0, x5, x6, x11, x12, x15, x16 => if x16 < x15 then (if 0 ≤ x6 then (if x6 < (x5.length : Int) then ((g x6 x16).bind fun t105 => (if (rd_L1 x5 x6).length < 17592186044416 then (veils_made_int.l1 g k x0 (x5.set (x6 : Int).toNat ((rd_L1 x5 x6) ++ [t105])) x6 x11 x12 x15 (wrap64 (x16 + 1))) else (none))) else (none)) else (none)) else (veils_made_int.l0 g k x0 x5 x11 (wrap64 (x12 + 1)))
end
def veils_made_int.f (g : Int → Int → Option Int) (k : Nat) (a0 : Int) : Option ((List (List Int))) := if 0 ≤ a0 then (if (a0 : Int).toNat ≤ 11728124029610 then ((some (List.replicate (a0 : Int).toNat [] : List (List Int))).bind fun y101 => (veils_made_int.l0 g k a0 y101 (y101.length : Int) 0)) else (none)) else (none)
def veils_made_int.T8 : Bool × List (List Nat × List Nat) := (true, [([], []), ([], []), ([], []), ([], []), ([2, 3], [2, 3]), ([4], [4]), ([], []), ([], []), ([], []), ([6, 7, 8], [6, 7, 8]), ([9], [9]), ([5, 10, 9], [5, 10]), ([0, 1, 0, 1, 2, 3, 4, 5, 6, 7, 8, 9, 10, 11], [0, 1]), ([12, 11, 11, 0, 1, 2, 3, 4, 5, 6, 7, 8, 9, 10, 11], [11, 12])])
def veils_made_int.B8 : List Nat := [0, 0, 0, 0, 12, 28, 0, 0, 0, 448, 960, 2044, 4095, 8191]
theorem veils_made_int.tab8 : rtab .any (opsOf Try.f59 8) = veils_made_int.T8 := by kernel_rfl
theorem veils_made_int.bits8 : waitsOk veils_made_int.T8.2 veils_made_int.B8 = true := by kernel_rfl
set_option maxHeartbeats 8000000 in
set_option maxRecDepth 100000 in
theorem veils_made_int.calls (g : Int → Int → Option Int) {fid : FuncId} {fn : Func} (hfn : Try.prog.funcs[fid]? = some fn) (hnm : (fn.name == "runtime.NumGoroutine") = false) (hbd : fn.body.isSome = true) (caps : Array Value) (k : Nat) (a0 : Int) (r : List (List Int)) (w : World)
 (hg_ : Aside0 (∀ (i j x : Int) (W : World), Below w.heap.size w W → g i j = some x → Calls Try.prog fid (#[.int .i64 i, .int .i64 j] ++ caps) W fun e W' => e = .returned (.int .i64 x) ∧ Below W.heap.size W W')) (h : veils_made_int.f g k a0 = some r) :
 Calls Try.prog 59 #[.int .i64 a0, .func (.func fid) #[] caps] w fun e w' => ∃ v0_ : Value, e = .returned (v0_) ∧ Kd.S (Kd.slice 3 (Kd.int .i64)) 28 w' w.heap.size (fun _ => True) v0_ r ∧ Below w.heap.size w w' := by
 have HB := Aside0.mk (Below.refl w.heap.size w)
 have H : (if 0 ≤ a0 then (if (a0 : Int).toNat ≤ 11728124029610 then ((some (List.replicate (a0 : Int).toNat [] : List (List Int))).bind fun y101 => (veils_made_int.l0 g k a0 y101 (y101.length : Int) 0)) else (none)) else (none)) = some r := h
 clear h
 by_cases c3 : 0 ≤ a0
 · rw [if_pos c3] at H
   have c3b0 := eq_true c3
   have c3b1 : decide (0 ≤ a0) = true := decide_eq_true c3
   clear c3
   by_cases c4 : (a0 : Int).toNat ≤ 11728124029610
   · rw [if_pos c4] at H
     have c4b0 := eq_true c4
     have c4b1 : decide ((a0 : Int).toNat ≤ 11728124029610) = true := decide_eq_true c4
     clear c4
     obtain ⟨y101, hy101⟩ : ∃ y_ : List (List Int), y_ = (List.replicate (a0 : Int).toNat []) := ⟨_, rfl⟩
     replace H : (veils_made_int.l0 g k a0 y101 (y101.length : Int) 0) = some r := by first | (rw [hy101]; with_reducible exact H) | (have H2_ := (Option.bind_some _ _).symm.trans H; rw [hy101]; with_reducible exact H2_) | (have H2_ := (Option.bind_some _ _).symm.trans H; with_reducible exact H2_) | with_reducible exact H | (rw [hy101]; exact H) | exact H
     have Ny101 := Aside0.mk hy101
     clear hy101
     have H' := Aside0.mk H
     clear H
     go_enter Try.func59, Try.ntmps59
     go_wp2_with (first | ((with_reducible refine gate_dst (N := 9) rfl ?_); refine Kd.S_make (Kd.slice 3 (Kd.int .i64)) _ 28 rfl (N := 9) rfl 63 _ _ rfl a0 rfl rfl Try.underlying63 (.slice none 0 0) 24 info28 rfl (by decide) (by omega) [] (ok := fun _ => True) (okp := fun _ => True) ⟨_, rfl, Kd.R_nil _ _ _ _ _⟩ (fun _ hk => hk) trivial (od_) (Nat.le_trans (Nat.mul_le_mul_right _ (od_ : a0.toNat ≤ 11728124029610)) (by omega)) (Below.refl _ _) (Nat.le_refl _) ?_; intro v102 w5 ho6 hb hg_ hnew_; clear hg_ hnew_; (first | rw [← Ny101.out] at ho6 | (simp only [Int.reduceToNat] at ho6; rw [← Ny101.out] at ho6)); have n0_ := Aside0.mk (Kd.S_lower ho6 (below_size (bel_))); have n1_ := Aside0.mk (below_step (bel_) hb); clear HB; have HO103 := n0_; have HB := n1_; clear n0_ n1_; clear hb ho6; obtain ⟨Ao7, co7, eo7⟩ := Kd.S_slice HO103.out; subst eo7))
     go_loopg [12] k (fun kq v12 w' => ∃ (x5_1 : List (List Int)) (x12_1 : Int), v12 = .int .i64 x12_1 ∧ Aside0 (veils_made_int.l0 g kq a0 x5_1 (y101.length : Int) x12_1 = some r) ∧ Aside0 (kq ≤ k) ∧ Aside0 (Kd.S (Kd.slice 3 (Kd.int .i64)) 28 w' w.heap.size (fun _ => True) (.slice Ao7 y101.length co7) x5_1) ∧ Aside0 (Below w.heap.size w w'))
     case atStart => exact ⟨(y101), (0), rf_, H', ⟨Nat.le_refl _⟩, ⟨nS_ HO103.out⟩, ⟨bel_⟩⟩
     case round =>
      clear H'
      try clear p2
      try clear c3
      try clear c3b0
      try clear c3b1
      try clear c4
      try clear c4b0
      try clear c4b1
      try clear c5
      obtain ⟨x5_1, x12_1, rfl, HA, HK1, HO_5, HB⟩ := hrel
      have hl5_1 := (Kd.S_reads' HO_5.out).1
      rw [hl5_1] at HO_5
      (try simp only [hl5_1])
      cases gk with
      | zero => exact absurd HA.out (by simp [veils_made_int.l0])
      | succ k1 =>
       have H := HA.out
       clear HA
       simp only [veils_made_int.l0] at H
       by_cases c8 : x12_1 < (y101.length : Int)
       · rw [if_pos c8] at H
         have c8b0 : decide (x12_1 < (x5_1.length : Int)) = true := decide_eq_true (by rw [← hl5_1]; exact c8)
         clear c8
         have H' := Aside0.mk H
         clear H
         go_wp2
         go_loopg [16] k1 (fun kq v16 w' => ∃ (x5_2 : List (List Int)) (x16_2 : Int), v16 = .int .i64 x16_2 ∧ Aside0 (veils_made_int.l1 g kq a0 x5_2 x12_1 (y101.length : Int) x12_1 a0 x16_2 = some r) ∧ Aside0 (kq ≤ k1) ∧ Aside0 (Kd.S (Kd.slice 3 (Kd.int .i64)) 28 w' w.heap.size (fun _ => True) (.slice Ao7 x5_1.length co7) x5_2) ∧ Aside0 (Below w.heap.size w w'))
         case atStart => exact ⟨(x5_1), (0), rf_, H', ⟨Nat.le_refl _⟩, ⟨by (try simp only [hl5_1]); (with_reducible repeat (first | apply Kd.S_alloc | apply Kd.S_drewN | apply Kd.S_drew)); exact HO_5.out⟩, ⟨bel_⟩⟩
         case round =>
          clear H'
          try clear p2
          try clear c3
          try clear c3b0
          try clear c3b1
          try clear c4
          try clear c4b0
          try clear c4b1
          try clear c5
          try clear c8
          try clear c8b0
          try clear p2
          obtain ⟨x5_2, x16_2, rfl, HA, HK2, HO_5, HB⟩ := hrel
          have hl5_2 := (Kd.S_reads' HO_5.out).1
          rw [hl5_2] at HO_5
          (try simp only [hl5_2])
          cases gk with
          | zero => exact absurd HA.out (by simp [veils_made_int.l1])
          | succ k2 =>
           have H := HA.out
           clear HA
           simp only [veils_made_int.l1] at H
           by_cases c9 : x16_2 < a0
           · rw [if_pos c9] at H
             have c9b0 : decide (x16_2 < a0) = true := decide_eq_true c9
             clear c9
             by_cases c10 : 0 ≤ x12_1
             · rw [if_pos c10] at H
               have c10b0 : decide (0 ≤ x12_1) = true := decide_eq_true c10
               clear c10
               by_cases c11 : x12_1 < (x5_2.length : Int)
               · rw [if_pos c11] at H
                 have c11b0 : decide (x12_1 < (x5_2.length : Int)) = true := decide_eq_true c11
                 clear c11
                 replace H := Option.bind_eq_some_iff.mp H
                 obtain ⟨t105, A120, H⟩ := H
                 replace H : (if (rd_L1 x5_2 x12_1).length < 17592186044416 then (veils_made_int.l1 g k2 a0 (x5_2.set (x12_1 : Int).toNat ((rd_L1 x5_2 x12_1) ++ [t105])) x12_1 (y101.length : Int) x12_1 a0 (wrap64 (x16_2 + 1))) else (none)) = some r := H
                 have A12 := Aside0.mk A120
                 clear A120
                 by_cases c13 : (rd_L1 x5_2 x12_1).length < 17592186044416
                 · rw [if_pos c13] at H
                   have LMc13 := Aside0.mk c13
                   clear c13
                   obtain ⟨y106, hy106⟩ : ∃ y_ : List Int, y_ = ((rd_L1 x5_2 x12_1) ++ [t105]) := ⟨_, rfl⟩
                   replace H : (veils_made_int.l1 g k2 a0 (x5_2.set (x12_1 : Int).toNat y106) x12_1 (y101.length : Int) x12_1 a0 (wrap64 (x16_2 + 1))) = some r := by first | (rw [hy106]; with_reducible exact H) | (have H2_ := (Option.bind_some _ _).symm.trans H; rw [hy106]; with_reducible exact H2_) | (have H2_ := (Option.bind_some _ _).symm.trans H; with_reducible exact H2_) | with_reducible exact H | (rw [hy106]; exact H) | exact H
                   have Ny106 := Aside0.mk hy106
                   clear hy106
                   obtain ⟨y109, hy109⟩ : ∃ y_ : List (List Int), y_ = (x5_2.set (x12_1 : Int).toNat y106) := ⟨_, rfl⟩
                   replace H : (veils_made_int.l1 g k2 a0 y109 x12_1 (y101.length : Int) x12_1 a0 (wrap64 (x16_2 + 1))) = some r := by first | (rw [hy109]; with_reducible exact H) | (have H2_ := (Option.bind_some _ _).symm.trans H; rw [hy109]; with_reducible exact H2_) | (have H2_ := (Option.bind_some _ _).symm.trans H; with_reducible exact H2_) | with_reducible exact H | (rw [hy109]; exact H) | exact H
                   have Ny109 := Aside0.mk hy109
                   clear hy109
                   have H' := Aside0.mk H
                   clear H
                   try go_wp2
                   have n0_ := Aside0.mk (Kd.S_drew HO_5.out)
                   have n1_ := Aside0.mk (below_drew1 HB.out)
                   clear HO_5
                   clear HB
                   have HO_5 := n0_
                   have HB := n1_
                   clear n0_ n1_
                   have p104 : 0 ≤ (x12_1 : Int) := od_
                   have q104 : x12_1 < (x5_2.length : Int) := od_
                   obtain ⟨ad104, A104_0, c104_0, e104, hx104_0, hl104_0, hi104_0⟩ := at_L1 (Kd.S_reads' HO_5.out).2.2 x12_1 p104 q104
                   cases e104
                   obtain ⟨ce104, hce104, hMe104, hcc104⟩ := Kd.S_get HO_5.out [] x12_1 p104 (by first | exact q104 | exact od_ | (have e_ := (Kd.S_reads' HO_5.out).1; omega))
                   obtain ⟨ve104_0, rfl, ge104_0⟩ := hMe104
                   have hv104_0 := hcc104 0 _ rfl
                   rw [Nat.add_zero, show ((Kd.slice 3 (Kd.int .i64))).sz = 1 from rfl, Nat.mul_one] at hv104_0
                   replace hv104_0 := Option.some.inj (hv104_0.symm.trans hx104_0)
                   rw [hv104_0] at ge104_0
                   have HL104_0 := Aside0.mk (show Kd.R (Kd.int .i64) 3 _ _ _ _ (rd_L1 x5_2 x12_1) from ge104_0)
                   clear hv104_0 ge104_0
                   have HX104_0 := Aside0.mk hx104_0
                   clear hcc104 hce104
                   have HR104_0 := Aside0.mk hi104_0
                   have HC104_0 := Aside0.mk hl104_0
                   clear hi104_0 hl104_0
                   replace p104 := eq_true p104
                   replace q104 := eq_true q104
                   refine start_ (n := 14) (S := fun w' => w'.cell? (ad104.add (x12_1).toNat) = some (.slice A104_0 (rd_L1 x5_2 x12_1).length c104_0)) (ds := [13]) #[false, false, false, false, false, false, false, false, false, false, false, false, false, false] (by kernel_rfl) rfl rfl (hx104_0) (fun hHeld => ?_); refine with_tabW veils_made_int.tab8 veils_made_int.bits8 (fun HT_ HW_ => ?_)
                   generalize wr.drew = w15 at HO_5 HB HL104_0 HR104_0 HX104_0 hx104_0 hHeld ⊢
                   refine pure_ (i := 0) (N := some 19) (v := ?_) (a' := ?_) #[true, false, false, false, false, false, false, false, false, false, false, false, false, false] rfl rfl (any_of HT_.out (by kernel_rfl)) (fun _ _ _ h => h) (Or.inl ⟨by rfl, ?_⟩) ?_ ?_
                   rotate_left
                   · intro w'
                     go_simp
                     with_reducible rfl
                   rotate_left
                   · simp only [Act.put, List.setIfInBounds_toArray, List.set_cons_zero, List.set_cons_succ, i64_w, i32_w]
                     rfl
                   refine pure_ (i := 1) (N := some 20) (v := ?_) (a' := ?_) #[true, true, false, false, false, false, false, false, false, false, false, false, false, false] rfl rfl (any_of HT_.out (by kernel_rfl)) (fun _ _ _ h => h) (Or.inl ⟨by rfl, ?_⟩) ?_ ?_
                   rotate_left
                   · intro w'
                     go_simp
                     with_reducible rfl
                   rotate_left
                   · simp only [Act.put, List.setIfInBounds_toArray, List.set_cons_zero, List.set_cons_succ, i64_w, i32_w]
                     rfl
                   refine pure_ (i := 2) (N := some 21) (v := ?_) (a' := ?_) #[true, true, true, false, false, false, false, false, false, false, false, false, false, false] rfl rfl (any_of HT_.out (by kernel_rfl)) (fun _ _ _ h => h) (Or.inl ⟨by rfl, ?_⟩) ?_ ?_
                   rotate_left
                   · intro w'
                     go_simp
                     with_reducible rfl
                   rotate_left
                   · simp only [Act.put, List.setIfInBounds_toArray, List.set_cons_zero, List.set_cons_succ, i64_w, i32_w]
                     rfl
                   refine pure_ (i := 3) (N := some 22) (v := ?_) (a' := ?_) #[true, true, true, true, false, false, false, false, false, false, false, false, false, false] rfl rfl (any_of HT_.out (by kernel_rfl)) (fun _ _ _ h => h) (Or.inl ⟨by rfl, ?_⟩) ?_ ?_
                   rotate_left
                   · intro w'
                     go_simp
                     with_reducible rfl
                   rotate_left
                   · simp only [Act.put, List.setIfInBounds_toArray, List.set_cons_zero, List.set_cons_succ, i64_w, i32_w]
                     rfl
                   refine pure_ (i := 4) (N := some 23) (v := ?_) (a' := ?_) #[true, true, true, true, true, false, false, false, false, false, false, false, false, false] rfl rfl (any_of HT_.out (by kernel_rfl)) (fun _ _ _ h => h) (Or.inl ⟨by rfl, ?_⟩) ?_ ?_
                   rotate_left
                   · intro w'
                     go_simp
                     with_reducible rfl
                   rotate_left
                   · simp only [Act.put, List.setIfInBounds_toArray, List.set_cons_zero, List.set_cons_succ, i64_w, i32_w]
                     rfl
                   refine pure_ (i := 6) (N := some 25) (v := ?_) (a' := ?_) #[true, true, true, true, true, false, true, false, false, false, false, false, false, false] rfl rfl (any_of HT_.out (by kernel_rfl)) (fun _ _ _ h => h) (Or.inl ⟨by rfl, ?_⟩) ?_ ?_
                   rotate_left
                   · intro w'
                     go_simp
                     with_reducible rfl
                   rotate_left
                   · simp only [Act.put, List.setIfInBounds_toArray, List.set_cons_zero, List.set_cons_succ, i64_w, i32_w]
                     rfl
                   refine pure_ (i := 7) (N := some 26) (v := ?_) (a' := ?_) #[true, true, true, true, true, false, true, true, false, false, false, false, false, false] rfl rfl (any_of HT_.out (by kernel_rfl)) (fun _ _ _ h => h) (Or.inl ⟨by rfl, ?_⟩) ?_ ?_
                   rotate_left
                   · intro w'
                     go_simp
                     with_reducible rfl
                   rotate_left
                   · simp only [Act.put, List.setIfInBounds_toArray, List.set_cons_zero, List.set_cons_succ, i64_w, i32_w]
                     rfl
                   refine pure_ (i := 8) (N := some 27) (v := ?_) (a' := ?_) #[true, true, true, true, true, false, true, true, true, false, false, false, false, false] rfl rfl (any_of HT_.out (by kernel_rfl)) (fun _ _ _ h => h) (Or.inl ⟨by rfl, ?_⟩) ?_ ?_
                   rotate_left
                   · intro w'
                     go_simp
                     with_reducible rfl
                   rotate_left
                   · simp only [Act.put, List.setIfInBounds_toArray, List.set_cons_zero, List.set_cons_succ, i64_w, i32_w]
                     rfl
                   refine take_ (i := 5) (N := some 24) (v := ?_) (a' := ?_) #[true, true, true, true, true, true, true, true, true, false, false, false, false, false] rfl rfl (take_ofW HT_.out HW_.out (by kernel_rfl)) (fun _ _ _ h => h) (Or.inl ⟨by rfl, ?_⟩) hHeld ?_ ?_
                   rotate_left
                   · intro w' s0
                     go_simp
                     with_reducible rfl
                   rotate_left
                   · simp only [Act.put, List.setIfInBounds_toArray, List.set_cons_zero, List.set_cons_succ, i64_w, i32_w]
                     rfl
                   refine one_ (i := 9) (N := some 28) #[true, true, true, true, true, true, true, true, true, true, false, false, false, false] rfl rfl (one_of HT_.out (by kernel_rfl)) (by decide) (fun K hK => ?_)
                   refine H.goesV_ (x := .tmp 25) (caps := caps) hfn hnm hbd (#[.int .i64 x12_1, .int .i64 x16_2] ++ caps) (by rfl) rfl rfl rfl (by (try simp only [List.map_toArray, List.map_cons, List.map_nil]); first | done | rfl) ?_
                   with_reducible refine (hg_.out x12_1 x16_2 t105 _ (bel_) A12.out).mono ?_
                   rintro e w16 ⟨rfl, hb⟩
                   have HS0_ := (hb.cell (World.block_lt_of_cell? _ _ (hHeld))).trans (hHeld)
                   refine ⟨_, rfl, ?_⟩
                   have n0_ := Aside0.mk (Kd.S_below (nS_ HO_5.out) hb)
                   have n1_ := Aside0.mk (Kd.R_below (nR_ HL104_0.out) hb)
                   have n2_ := Aside0.mk (Kd.C_below (by repeat (first | (with_reducible exact HR104_0.out) | (with_reducible refine Kd.C_alloc ?_ _) | (with_reducible refine Kd.C_drewN ?_ _) | (with_reducible refine Kd.C_drew ?_) | exact HR104_0.out)) hb)
                   have n3_ := Aside0.mk (pw_cell_below hb HX104_0.out)
                   have n4_ := Aside0.mk (below_step (bel_) hb)
                   clear HO_5
                   clear HL104_0
                   clear HR104_0
                   clear HX104_0
                   clear HB
                   have HO_5 := n0_
                   have HL104_0 := n1_
                   have HR104_0 := n2_
                   have HX104_0 := n3_
                   have HB := n4_
                   clear n0_ n1_ n2_ n3_ n4_
                   (try clear hb)
                   (try clear hb2)
                   (try clear hk)
                   (try clear hi)
                   obtain ⟨go17, co17, eo17, gb17, gl17, cl17, HG17⟩ := Kd.S_form HO_5.out (by have h_ : (x12_1 : Int) < ((x5_2.length : Int) : Int) := od_; have h2_ : 0 ≤ (x12_1 : Int) := (od_); omega)
                   (first | cases eo17 | (injection eo17 with ea_ en_ ec_; (first | subst ea_ | (injection ea_ with ea_; subst ea_)); subst ec_; clear en_))
                   have GB17 := Aside0.mk gb17
                   have GG17 := Aside0.mk HG17
                   clear gb17 gl17 HG17
                   (first | simp only [add_plain] at hx104_0 | skip)
                   obtain ⟨oki17, ce17, hcl17, hM17, hcc17, _, _, hH17⟩ := Kd.S_elem HO_5.out [] (x12_1 : Int) (od_) (by have h_ : (x12_1 : Int) < ((x5_2.length : Int) : Int) := od_; first | exact h_ | (have e_ := (Kd.S_reads' HO_5.out).1; omega) | simpa using h_)
                   obtain ⟨ve17_0, rfl, ge17_0⟩ := hM17
                   have hv17 := hcc17 0 _ rfl
                   have hX17 := HX104_0.out
                   (try simp only [add_plain] at hX17)
                   (try simp only [Nat.add_zero] at hv17)
                   (try rw [show ((Kd.slice 3 (Kd.int .i64))).sz = 1 from rfl, Nat.mul_one] at hv17)
                   replace hv17 := Option.some.inj (hv17.symm.trans hX17)
                   subst hv17
                   clear hX17 hcc17 hcl17
                   have UU17 := Aside0.mk (show Kd.R (Kd.int .i64) 3 _ w.heap.size oki17 (.slice A104_0 (rd_L1 x5_2 x12_1).length c104_0) (rd_L1 x5_2 x12_1) from ge17_0)
                   have HH17 := Aside0.mk hH17
                   have HN17 := Aside0.mk (Kd.S_reads' HO_5.out).1
                   clear hH17 ge17_0
                   refine hK.out _ _ (HS0_) (fun hHeld => ?_)
                   clear hK K
                   refine norm_ (a' := ?_) ?_ ?_
                   rotate_left
                   · show Act.put _ (some 28) _ = _
                     simp only [Act.put, List.setIfInBounds_toArray, List.set_cons_zero, List.set_cons_succ, i64_w, i32_w]
                     rfl
                   refine one_ (i := 10) (N := some 29) #[true, true, true, true, true, true, true, true, true, true, true, false, false, false] rfl rfl (one_of HT_.out (by kernel_rfl)) (by decide) (fun K hK => ?_)
                   refine value_ (w1 := ?_) (v := ?_) (by rfl) rfl ?_ ?_
                   rotate_left 2
                   · go_simp
                     constructor
                     · rfl
                     · rfl
                   refine hK.out _ _ ((World.cell?_alloc_lt _ _ _ (World.block_lt_of_cell? _ _ (hHeld))).trans (hHeld)) (fun hHeld => ?_)
                   clear hK K
                   refine norm_ (a' := ?_) ?_ ?_
                   rotate_left
                   · show Act.put _ (some 29) _ = _
                     simp only [Act.put, List.setIfInBounds_toArray, List.set_cons_zero, List.set_cons_succ, i64_w, i32_w]
                     rfl
                   refine one_ (i := 11) (N := some 30) #[true, true, true, true, true, true, true, true, true, true, true, true, false, false] rfl rfl (one_of HT_.out (by kernel_rfl)) (by decide) (fun K hK => ?_)
                   refine Kd.R_append_step (Kd.int .i64) (w0 := w) w.heap.size (by rfl) (.tmp 24) (.tmp 29) 28 3 (.int .i64 0) 8 rfl Try.underlying28 info3 rfl (by decide) (by omega) (.slice A104_0 (rd_L1 x5_2 x12_1).length c104_0) (rd_L1 x5_2 x12_1) t105 [.int .i64 t105] (fun k_ => oki17 k_ ∨ ((fun _ => True)) k_ ∧ w16.heap.size ≤ k_) (fun _ => False) rfl rfl ?aP (fun _ hk => hk.elim) ?aF ?aO ?aB ?aS ?aL ?_
                   (case aP => exact rfl)
                   (case aB => exact (bel_))
                   (case aF => exact (fun k_ hk => .inr ⟨trivial, hk⟩))
                   (case aO => exact (by (with_reducible repeat (first | apply Kd.R_alloc | apply Kd.R_drewN | apply Kd.R_drew)); exact Kd.R_mono UU17.out (fun _ hk => .inl hk)))
                   (case aS => exact (below_size (bel_)))
                   (case aL => have := LMc13.out; omega)
                   intro v107 w18 ho hb hg hat
                   (first | have HS0_ := cell_grown hg (hHeld) (by first | (rw [add_block]; exact (fun e_ => ((HL104_0.out.1 _ e_.symm).2) rfl)) | (show some (Addr.add _ _).block ≠ _; rw [add_block]; exact (fun e_ => ((HL104_0.out.1 _ e_.symm).2) rfl)) | exact (fun e_ => ((HL104_0.out.1 _ e_.symm).2) rfl)) | have HS0_ := cell_grown hg (cell_unalloc (hHeld) (by first | (rw [add_block]; exact Kd.S_lt HO_5.out _ rfl) | (show (Addr.add _ _).block < _; rw [add_block]; exact Kd.S_lt HO_5.out _ rfl) | exact Kd.S_lt HO_5.out _ rfl)) (by first | (rw [add_block]; exact (fun e_ => ((HL104_0.out.1 _ e_.symm).2) rfl)) | (show some (Addr.add _ _).block ≠ _; rw [add_block]; exact (fun e_ => ((HL104_0.out.1 _ e_.symm).2) rfl)) | exact (fun e_ => ((HL104_0.out.1 _ e_.symm).2) rfl)))
                   rw [← Ny106.out] at ho
                   have n0_ := Aside0.mk (hb)
                   have n1_ := Aside0.mk (Kd.H_grown (Kd.H_widen (by repeat (first | exact HH17.out | refine Kd.H_alloc ?_ _ | refine Kd.H_drewN ?_ _ | refine Kd.H_drew ?_))) hg (fun k_ e_ => .inl (UU17.out.1 k_ e_)))
                   have n2_ := Aside0.mk (ho)
                   clear HB
                   clear HH17
                   clear HO_5
                   clear UU17
                   clear HL104_0
                   have HB := n0_
                   have HH17 := n1_
                   have HO108 := n2_
                   clear n0_ n1_ n2_
                   clear ho hb hg hat
                   have p14 : 0 ≤ (x12_1 : Int) := od_
                   have q14 : (x12_1 : Int) < ((x5_2.length : Int) : Int) := od_
                   replace p14 := eq_true p14
                   replace q14 := eq_true q14
                   obtain ⟨Ao21, co21, eo21⟩ := Kd.R_slice HO108.out
                   (first | subst eo21 | (injection eo21 with f1_ f2_ f3_; have f4_ := f1_.symm; have f5_ := f3_.symm; clear f1_ f2_ f3_; subst f4_; subst f5_))
                   obtain ⟨_, _, hraw19, _, _, hcc19, _⟩ := Kd.H_raw HH17.out (od_) (by have h_ : (x12_1 : Int) < ((x5_2.length : Int) : Int) := od_; first | exact h_ | (have e_ := (HN17.out); omega) | simpa using h_)
                   obtain ⟨_, hfr19⟩ := Kd.H_at HH17.out (od_) (by have h_ : (x12_1 : Int) < ((x5_2.length : Int) : Int) := od_; first | exact h_ | (have e_ := (HN17.out); omega) | simpa using h_)
                   have hx19_0 := hcc19 0 _ rfl
                   have hf19_0 := hfr19 0
                   (try simp only [Nat.add_zero] at hx19_0 hf19_0)
                   (try rw [show ((Kd.slice 3 (Kd.int .i64))).sz = 1 from rfl, Nat.mul_one] at hx19_0)
                   (try rw [show ((Kd.slice 3 (Kd.int .i64))).sz = 1 from rfl, Nat.mul_one] at hf19_0)
                   have HP19 := Kd.S_seg0 HH17.out (od_) (by have h_ : (x12_1 : Int) < ((x5_2.length : Int) : Int) := od_; first | exact h_ | (have e_ := (HN17.out); omega) | simpa using h_) (seg := [.slice Ao21 y106.length co21]) (j := 0) (show 1 ≤ 1 from by decide) (x' := y106) (Kd.M_row HO108.out) (fun _ hk => hk)
                   (try simp only [show ((Kd.slice 3 (Kd.int .i64))).sz = 1 from rfl, Nat.mul_one, Nat.add_zero] at HP19)
                   clear hcc19 hfr19
                   have HS19 := HP19.1
                   rw [← Ny109.out] at HS19
                   have HQ19 := Aside0.mk HS19
                   obtain ⟨_, hgg19⟩ := Kd.R_typed hraw19 go17 rfl
                   have GG19_ := Aside0.mk hgg19
                   clear HP19 HS19 hgg19
                   refine hK.out _ _ (HS0_) (fun hHeld => ?_)
                   clear hK K
                   refine norm_ (a' := ?_) ?_ ?_
                   rotate_left
                   · show Act.put _ (some 30) _ = _
                     simp only [Act.put, List.setIfInBounds_toArray, List.set_cons_zero, List.set_cons_succ, i64_w, i32_w]
                     rfl
                   refine pure_ (i := 12) (N := some 31) (v := ?_) (a' := ?_) #[true, true, true, true, true, true, true, true, true, true, true, true, true, false] rfl rfl (any_of HT_.out (by kernel_rfl)) (fun _ _ _ h => h) (Or.inl ⟨by rfl, ?_⟩) ?_ ?_
                   rotate_left
                   · intro w'
                     go_simp
                     with_reducible rfl
                   rotate_left
                   · simp only [Act.put, List.setIfInBounds_toArray, List.set_cons_zero, List.set_cons_succ, i64_w, i32_w]
                     rfl
                   refine last_ (i := 13) (N := none) #[true, true, true, true, true, true, true, true, true, true, true, true, true, true] rfl rfl (one_of HT_.out (by kernel_rfl)) (by decide) (fun K hK => ?_)
                   refine skip_ (w1 := ?_) (by rfl) rfl ?_ ?_
                   rotate_left
                   · go_simp
                     rfl
                   refine hK.out _ _ ?_
                   clear hK K
                   refine done_ (done_of HT_.out (by kernel_rfl)) ?_
                   try go_wp2
                   (try simp only [← hl5_2])
                   go_roundg k2
                   case measure => have := HK1.out; have := HK2.out; omega
                   case rel => exact ⟨(y109), (wrap64 (x16_2 + 1)), rf_, H', ⟨by have := HK1.out; have := HK2.out; omega⟩, ⟨by (try simp only [hl5_1]); (try simp only [hl5_2]); (with_reducible repeat (first | apply Kd.S_alloc | apply Kd.S_drewN | apply Kd.S_drew)); exact HQ19.out⟩, ⟨by repeat (first | (with_reducible first | exact HB.out | apply below_alloc | apply pw_below_drewN | apply below_drew1 | refine below_set ?_ GB17.out) | exact HB.out)⟩⟩
                 · rw [if_neg c13] at H
                   exact absurd H (by simp)
               · rw [if_neg c11] at H
                 exact absurd H (by simp)
             · rw [if_neg c10] at H
               exact absurd H (by simp)
           · rw [if_neg c9] at H
             have c9b0 : decide (x16_2 < a0) = false := decide_eq_false c9
             clear c9
             have H' := Aside0.mk H
             clear H
             go_wp2
             (try simp only [← hl5_1, ← hl5_2])
             go_roundg k2
             case measure => have := HK1.out; have := HK2.out; omega
             case rel => exact ⟨(x5_2), (wrap64 (x12_1 + 1)), rf_, H', ⟨by have := HK1.out; have := HK2.out; omega⟩, ⟨by (try simp only [hl5_1]); (try simp only [hl5_2]); (with_reducible repeat (first | apply Kd.S_alloc | apply Kd.S_drewN | apply Kd.S_drew)); exact HO_5.out⟩, ⟨bel_⟩⟩
       · rw [if_neg c8] at H
         have c8b0 : decide (x12_1 < (x5_1.length : Int)) = false := decide_eq_false (by rw [← hl5_1]; exact c8)
         clear c8
         obtain rfl := Option.some.inj H
         go_wp2
         go_ret
         exact ⟨_, er_, by (with_reducible repeat (first | apply Kd.S_alloc | apply Kd.S_drewN | apply Kd.S_drew)); exact HO_5.out, bel_⟩
   · rw [if_neg c4] at H
     exact absurd H (by simp)
 · rw [if_neg c3] at H
   exact absurd H (by simp)

end Go.Proofs.Ytdinepghommchaa.V

/- The walk of 'all': the table, the rows of sums and the boxes are made, and the search begins. -/
namespace Go.Proofs.Ytdinepghommchaa.V
open Go.RowKit Go.Proofs.YtdinepghommchaaW.PrintWords Go.Proofs.YtdinepghommchaaW.PrintLast Go.Proofs.YtdinepghommchaaW.PrintMore
set_option linter.unusedVariables false
set_option linter.unusedSimpArgs false

/-- all's first closure: a zero for each place. -/
theorem veils_all1.calls (i j : Int) (w : World) : Calls Try.prog 60 #[.int .i64 i, .int .i64 j] w fun e w' => e = .returned (.int .i64 0) ∧ w = w' := by
 go_enter Try.func60, Try.ntmps60
 go_wp2
 go_ret
 exact ⟨rfl, rfl⟩

theorem made_zero (n : Nat) (h1 : 1 ≤ n) (h5 : n ≤ 5) : veils_made_int.f (fun _ _ => some 0) 1000 (n : Int) = some (List.replicate n (List.replicate n 0)) := by
 obtain rfl | rfl | rfl | rfl | rfl : n = 1 ∨ n = 2 ∨ n = 3 ∨ n = 4 ∨ n = 5 := by omega
 all_goals decide +kernel

/-- The four blocks that are made in either order: the rows of sums, and their boxes. -/
structure Fresh (n : Nat) (w wc : World) (br bc R C : Nat) : Prop where
 hbr : wc.heap[br]? = some (.cells #[.slice (some ⟨R, 0, none⟩) n n] 28 (0, 0))
 hbc : wc.heap[bc]? = some (.cells #[.slice (some ⟨C, 0, none⟩) n n] 28 (0, 0))
 hR : wc.heap[R]? = some (.cells (madeCells #[.int .i64 0] n) 3 (0, 0))
 hC : wc.heap[C]? = some (.cells (madeCells #[.int .i64 0] n) 3 (0, 0))
 lt : w.heap.size ≤ br ∧ w.heap.size ≤ bc ∧ w.heap.size ≤ R ∧ w.heap.size ≤ C
 ne : br ≠ bc ∧ br ≠ R ∧ br ≠ C ∧ bc ≠ R ∧ bc ≠ C ∧ R ≠ C
 below : Below w.heap.size w wc

theorem made_row {W : World} {g base n : Nat} (h : W.heap[g]? = some (.cells (madeCells #[.int .i64 0] n) 3 (0, 0))) (hb : base ≤ g) (hn : n ≤ 1000) :
 Kd.R (Kd.int .i64) 3 W base (fun k => k = g) (.slice (some ⟨g, 0, none⟩) n n) (List.replicate n 0) := by
 have hl : (madeCells #[Value.int .i64 0] n).toList = encs (Value.int .i64) (List.replicate n (0 : Int)) := by
  apply List.ext_getElem
  · simp [encs, madeCells]
  · intro i h1 h2
    simp [encs, madeCells, Nat.mod_one]
 refine Kd.R_of_own (enc := Value.int .i64) ⟨by simp [encs], .inr ⟨g, n, madeCells #[.int .i64 0] n, by rw [List.length_replicate], hb, h, by rw [List.length_replicate]; exact Nat.le_refl _, by unfold maxLen; omega, by rw [size_madeCells, Nat.mul_one], ?_⟩⟩ (fun k hk => by simpa [Value.ownBlock] using hk.symm)
 rw [hl, Nat.mul_one]
 simp [encs]
theorem fresh_of {n br bc R C : Nat} {w wc : World} {ob : Obj} {p1 p2 p3 p4 : Prop} (h : p1 ∧ p2 ∧ p3 ∧ p4 ∧ Below (w.alloc ob).heap.size (w.alloc ob) wc)
 (hbr : wc.heap[br]? = some (.cells #[.slice (some ⟨R, 0, none⟩) n n] 28 (0, 0))) (hbc : wc.heap[bc]? = some (.cells #[.slice (some ⟨C, 0, none⟩) n n] 28 (0, 0)))
 (hR : wc.heap[R]? = some (.cells (madeCells #[.int .i64 0] n) 3 (0, 0))) (hC : wc.heap[C]? = some (.cells (madeCells #[.int .i64 0] n) 3 (0, 0)))
 (lt : w.heap.size + 1 ≤ br ∧ w.heap.size + 1 ≤ bc ∧ w.heap.size + 1 ≤ R ∧ w.heap.size + 1 ≤ C) (ne : br ≠ bc ∧ br ≠ R ∧ br ≠ C ∧ bc ≠ R ∧ bc ≠ C ∧ R ≠ C) : Fresh n (w.alloc ob) wc br bc R C :=
 ⟨hbr, hbc, hR, hC, by simpa using lt, ne, h.2.2.2.2⟩
theorem heap4 (w : World) (ob o1 o2 o3 o4 : Obj) :
 (((((w.alloc ob).alloc o1).alloc o2).alloc o3).alloc o4).drew.heap[w.heap.size + 1]? = some o1 ∧ (((((w.alloc ob).alloc o1).alloc o2).alloc o3).alloc o4).drew.heap[w.heap.size + 1 + 1]? = some o2 ∧
 (((((w.alloc ob).alloc o1).alloc o2).alloc o3).alloc o4).drew.heap[w.heap.size + 1 + 1 + 1]? = some o3 ∧ (((((w.alloc ob).alloc o1).alloc o2).alloc o3).alloc o4).drew.heap[w.heap.size + 1 + 1 + 1 + 1]? = some o4 ∧
 Below (w.alloc ob).heap.size (w.alloc ob) (((((w.alloc ob).alloc o1).alloc o2).alloc o3).alloc o4).drew := by
 have e1 : (w.alloc ob).heap.size = w.heap.size + 1 := by simp
 have e2 : ((w.alloc ob).alloc o1).heap.size = w.heap.size + 1 + 1 := by simp
 have e3 : (((w.alloc ob).alloc o1).alloc o2).heap.size = w.heap.size + 1 + 1 + 1 := by simp
 have e4 : ((((w.alloc ob).alloc o1).alloc o2).alloc o3).heap.size = w.heap.size + 1 + 1 + 1 + 1 := by simp
 refine ⟨?_, ?_, ?_, ?_, ?_⟩
 · rw [← e1]; exact blk_alloc (blk_alloc (blk_alloc (blk_new _ o1) _) _) _
 · rw [← e2]; exact blk_alloc (blk_alloc (blk_new _ o2) _) _
 · rw [← e3]; exact blk_alloc (blk_new _ o3) _
 · rw [← e4]; exact blk_new _ o4
 · exact below_drew (below_alloc (below_alloc (below_alloc (below_alloc (Below.refl _ _) _) _) _) _)

def veils_all.f {α : Type} (n : Nat) (found : List (List Int) → α → Option α) (a : α) : Option α :=
 (onF n found 100 0 ⟨List.replicate n (List.replicate n 0), List.replicate n 0, List.replicate n 0⟩ a).map fun z => z.2

set_option maxHeartbeats 1000000 in
set_option maxRecDepth 100000 in
theorem veils_all.calls {α : Type} {lo0 : Nat} {n : Nat} {fid : FuncId} {fn : Func} {caps : Array Value} {found : List (List Int) → α → Option α} {Acc : Nat → World → α → Prop} (hn1 : 1 ≤ n) (hn5 : n ≤ 5)
 (hfn : Try.prog.funcs[fid]? = some fn) (hnm : (fn.name == "runtime.NumGoroutine") = false) (hbd : fn.body.isSome = true) (a b : α) (w : World) (F : Aside0 (∀ hi, w.heap.size ≤ hi → Found lo0 w.heap.size hi fid caps found (Acc hi))) (h01 : lo0 ≤ w.heap.size) (ha : Aside0 (∀ hi, w.heap.size ≤ hi → Acc hi w a))
 (hb : Aside0 (veils_all.f n found a = some b)) :
 Calls Try.prog 41 #[.int .i64 n, .func (.func fid) #[] caps] w fun e W' => e = .returned (.tuple #[]) ∧ (∃ hi, w.heap.size ≤ hi ∧ Acc hi W' b) ∧ Same (fun k => k < lo0) w W' := by
 have hmf : ∀ (fn : Fn) (first cap : Array Value) (w : World), (Instr.makeFunc fn first cap).run Try.prog w = .ok (.func fn first cap) w := fun _ _ _ _ => rfl
 have hmk := print_make (P := Try.prog) 28 3 .i64 8 Try.underlying28 info3 (by decide) n (by omega)
 have n1 : 1 ≤ (n : Int) := by omega
 have n2 : (n : Int) ≤ 5 := by omega
 have M0 := Aside0.mk (made_zero n hn1 hn5)
 have b1 : ((w.alloc (.cells #[.int .i64 n] 3)).alloc (.cells #[.func (.func fid) #[] caps] 50)).heap[w.heap.size]? = some (.cells #[.int .i64 n] 3 (0, 0)) := blk_alloc (blk_new _ _) _
 have b2 : ((w.alloc (.cells #[.int .i64 n] 3)).alloc (.cells #[.func (.func fid) #[] caps] 50)).heap[w.heap.size + 1]? = some (.cells #[.func (.func fid) #[] caps] 50 (0, 0)) := by simpa using blk_new (w.alloc (.cells #[.int .i64 n] 3)) (.cells #[.func (.func fid) #[] caps] 50)
 have c1 := (blk_cell b1 0).trans (rfl : _ = some (Value.int .i64 (n : Int)))
 have B1 := Aside0.mk b1
 have B2 := Aside0.mk b2
 clear b1 b2
 go_enter Try.func41, Try.ntmps41
 go_wp2_with (go_at_call 59; refine (veils_made_int.calls (fun _ _ => some 0) Try.func60 (by kernel_rfl) rfl #[] 1000 (n : Int) (List.replicate n (List.replicate n 0)) _ ⟨fun i j x W hB hx => by obtain rfl := Option.some.inj hx; exact (veils_all1.calls i j W).mono fun e w' hh => by obtain ⟨rfl, rfl⟩ := hh; exact ⟨rfl, Below.refl _ _⟩⟩ M0.out).mono ?_; rintro e w1 ⟨v, rfl, ho, hbw⟩; obtain ⟨g, cap, ev, hbg, hgl, hcells⟩ := Kd.S_form ho (by simp; omega); rw [List.length_replicate] at ev; subst ev; have HO := Aside0.mk ho; have HB := Aside0.mk hbw; have HG := Aside0.mk (And.intro hbg hgl); have cn1 := (blk_cell (blk_below B1.out hbw) 0).trans (rfl : _ = some (Value.int .i64 (n : Int))); have hz : w.heap.size + 1 < w1.heap.size := (by have := hbw.size; simp at this; omega); have hz2 : w.heap.size < w1.heap.size := (by omega); clear ho hbw hbg hgl hcells)
 have z1 : w.heap.size < w1.heap.size + 1 := by omega
 have z2 : w.heap.size < w1.heap.size + 1 + 1 := by omega
 have z3 : w.heap.size < w1.heap.size + 1 + 1 + 1 := by omega
 have z4 : w.heap.size < w1.heap.size + 1 + 1 + 1 + 1 := by omega
 have y2 : w.heap.size < w1.heap.size + 2 := by omega
 have y3 : w.heap.size < w1.heap.size + 3 := by omega
 have y4 : w.heap.size < w1.heap.size + 4 := by omega
 go_cut [5, 6] (fun v5 v6 wc => ∃ br bc R C : Nat, v5 = .pointer (some ⟨br, 0, none⟩) ∧ v6 = .pointer (some ⟨bc, 0, none⟩) ∧ Aside0 (Fresh n (w1.alloc (.cells #[.slice (some ⟨g, 0, none⟩) n cap] 49)) wc br bc R C))
 case first =>
   go_region
   all_goals (go_wp2; go_meet; case rel => exact ⟨_, _, _, _, rfl, rfl, ⟨fresh_of (heap4 _ _ _ _ _ _) (by first | exact (heap4 _ _ _ _ _ _).1 | exact (heap4 _ _ _ _ _ _).2.1 | exact (heap4 _ _ _ _ _ _).2.2.1 | exact (heap4 _ _ _ _ _ _).2.2.2.1) (by first | exact (heap4 _ _ _ _ _ _).1 | exact (heap4 _ _ _ _ _ _).2.1 | exact (heap4 _ _ _ _ _ _).2.2.1 | exact (heap4 _ _ _ _ _ _).2.2.2.1) (by first | exact (heap4 _ _ _ _ _ _).1 | exact (heap4 _ _ _ _ _ _).2.1 | exact (heap4 _ _ _ _ _ _).2.2.1 | exact (heap4 _ _ _ _ _ _).2.2.2.1) (by first | exact (heap4 _ _ _ _ _ _).1 | exact (heap4 _ _ _ _ _ _).2.1 | exact (heap4 _ _ _ _ _ _).2.2.1 | exact (heap4 _ _ _ _ _ _).2.2.2.1) (by omega) (by omega)⟩⟩)
 case rest =>
   obtain ⟨br, bc, R, C, rfl, rfl, FR⟩ := hcut
   have hV := Aside0.mk (And.intro hz (And.intro hz2 HG.out))
   clear z1 z2 z3 z4 y2 y3 y4 hz hz2 cn1 c1 hmk
   have bnc : wc.heap[w.heap.size]? = some (.cells #[.int .i64 n] 3 (0, 0)) := blk_below (blk_alloc (blk_below B1.out HB.out) _) FR.out.below
   have bfc : wc.heap[w.heap.size + 1]? = some (.cells #[.func (.func fid) #[] caps] 50 (0, 0)) := blk_below (blk_alloc (blk_below B2.out HB.out) _) FR.out.below
   have bvc : wc.heap[w1.heap.size]? = some (.cells #[.slice (some ⟨g, 0, none⟩) n cap] 49 (0, 0)) := blk_below (blk_new w1 _) FR.out.below
   have tabc : Kd.S (Kd.slice 3 (Kd.int .i64)) 28 wc (w.heap.size + 2) (fun k => w.heap.size + 2 ≤ k ∧ k < w1.heap.size) (.slice (some ⟨g, 0, none⟩) n cap) (List.replicate n (List.replicate n 0)) := by
    have z := Kd.S_mono (Kd.S_bound HO.out) (ok' := fun k => w.heap.size + 2 ≤ k ∧ k < w1.heap.size) (fun k hk => ⟨by have := hk.2.1; simp at this; omega, hk.2.2.1⟩)
    have z2 := Kd.S_below (Kd.S_alloc z _) FR.out.below
    have z3 := Kd.S_lower z2 (base' := w.heap.size + 2) (by simp)
    exact z3
   have BNC := Aside0.mk bnc
   have BFC := Aside0.mk bfc
   have BVC := Aside0.mk bvc
   have TABC := Aside0.mk tabc
   have SZ := Aside0.mk FR.out.below.size
   clear bnc bfc bvc tabc
   obtain ⟨z, hz0, hzb⟩ := Option.map_eq_some_iff.mp hb.out
   have HZ := Aside0.mk hz0
   subst hzb
   clear hz0 hb M0 B1 B2
   have HSAME : Aside0 (Below w.heap.size w wc) := ⟨by
    have q1 : Below w.heap.size w ((w.alloc (.cells #[.int .i64 n] 3)).alloc (.cells #[.func (.func fid) #[] caps] 50)) := below_alloc (below_alloc (Below.refl _ _) _) _
    exact below_step (below_alloc (below_step q1 HB.out) _) FR.out.below⟩
   have hcall : Aside0 (Calls Try.prog 61 #[.int .i64 0, .pointer (some ⟨w.heap.size, 0, none⟩), .pointer (some ⟨bc, 0, none⟩), .pointer (some ⟨w.heap.size + 1, 0, none⟩), .pointer (some ⟨w1.heap.size, 0, none⟩), .pointer (some ⟨br, 0, none⟩), .pointer (some ⟨wc.heap.size, 0, none⟩)]
    (wc.alloc (.cells #[.func (.func 61) #[] #[.pointer (some ⟨w.heap.size, 0, none⟩), .pointer (some ⟨bc, 0, none⟩), .pointer (some ⟨w.heap.size + 1, 0, none⟩), .pointer (some ⟨w1.heap.size, 0, none⟩), .pointer (some ⟨br, 0, none⟩), .pointer (some ⟨wc.heap.size, 0, none⟩)]] 65))
    fun e W' => e = .returned (.tuple #[]) ∧ Acc (wc.heap.size + 1) W' z.2 ∧ Same (fun k => k < lo0) (wc.alloc (.cells #[.func (.func 61) #[] #[.pointer (some ⟨w.heap.size, 0, none⟩), .pointer (some ⟨bc, 0, none⟩), .pointer (some ⟨w.heap.size + 1, 0, none⟩), .pointer (some ⟨w1.heap.size, 0, none⟩), .pointer (some ⟨br, 0, none⟩), .pointer (some ⟨wc.heap.size, 0, none⟩)]] 65)) W') := ⟨by
    obtain ⟨v1, v2, v3, v4⟩ := hV.out
    obtain ⟨l1, l2, l3, l4⟩ := FR.out.lt
    obtain ⟨e1, e2, e3, e4, e5, e6⟩ := FR.out.ne
    have u1 := blk_lt FR.out.hbr
    have u2 := blk_lt FR.out.hbc
    have u3 := blk_lt FR.out.hR
    have u4 := blk_lt FR.out.hC
    have sz := SZ.out
    simp at l1 l2 l3 l4 v3 sz
    have st : St w.heap.size { bn := w.heap.size, br := br, bc := bc, bf := w.heap.size + 1, bv := w1.heap.size, bo := wc.heap.size, R := R, C := C, V := g, cv := cap, fv := .func (.func fid) #[] caps, okV := fun k => w.heap.size + 2 ≤ k ∧ k < w1.heap.size } n
     (wc.alloc (.cells #[.func (.func 61) #[] #[.pointer (some ⟨w.heap.size, 0, none⟩), .pointer (some ⟨bc, 0, none⟩), .pointer (some ⟨w.heap.size + 1, 0, none⟩), .pointer (some ⟨w1.heap.size, 0, none⟩), .pointer (some ⟨br, 0, none⟩), .pointer (some ⟨wc.heap.size, 0, none⟩)]] 65))
     ⟨List.replicate n (List.replicate n 0), List.replicate n 0, List.replicate n 0⟩ :=
     ⟨blk_alloc BNC.out _, blk_alloc FR.out.hbr _, blk_alloc FR.out.hbc _, blk_alloc BFC.out _, blk_alloc BVC.out _, blk_new _ _,
      Kd.R_alloc (made_row FR.out.hR (by omega) (by omega)) _, Kd.R_alloc (made_row FR.out.hC (by omega) (by omega)) _, Kd.S_alloc (Kd.S_lower TABC.out (by omega)) _,
      fun i hi => by simp [List.getD_eq_getElem?_getD, List.getElem?_replicate, hi]⟩
    have z1 := on_calls (hi := wc.heap.size + 1) (by omega) ⟨by constructor <;> dsimp only <;> omega, by constructor <;> dsimp only <;> omega, fun k hk => by dsimp only at hk ⊢; omega, e6, by dsimp only; omega, by dsimp only; omega, by dsimp only; omega⟩ hfn hnm hbd rfl (F.out _ (by omega)) h01 100 0 _ z.1 a z.2 _ (Nat.zero_le _) st (by simp) ((F.out _ (by omega)).stays _ _ _ (ha.out _ (by omega)) (Same.of_below (below_alloc HSAME.out _))) HZ.out
    exact z1.mono fun e W' hh => ⟨hh.1, hh.2.2.1, hh.2.2.2⟩⟩
   go_wp2_with (go_at_call 61; refine hcall.out.mono ?_; rintro e w4 ⟨rfl, C4, F4⟩)
   first | go_end0 | ((try simp only [Exit.inBlock, Exit.then]); refine bodyPost_ret (results_none rfl _ _ _) rfl ?_)
   exact ⟨rfl, ⟨_, by have := HSAME.out.size; omega, C4⟩, (Same.of_below (below_alloc HSAME.out _)).trans F4⟩
end Go.Proofs.Ytdinepghommchaa.V

-- Written by a program of this session over the kit's printer: wip/gp.py.
namespace Go.Proofs.Ytdinepghommchaa.V
open Go.RowKit Go.Proofs.YtdinepghommchaaW.PrintWords Go.Proofs.YtdinepghommchaaW.PrintLast Go.Proofs.YtdinepghommchaaW.PrintMore
attribute [local go_sem] max2_int min2_int max_two min_two max_three min_three max_four min_four   -- for this text's walks alone
set_option linter.unusedVariables false
set_option linter.unusedSimpArgs false

/-! ### slices_Clone_int_int: function 63 -/
def slices_Clone_int_int.f (l0 : List Int) : Option (List Int) := (some (([] : List Int) : List Int)).bind fun y103 => (if y103.length + l0.length < 17592186044416 then (some (y103 ++ l0)) else (none))
set_option maxHeartbeats 8000000 in
set_option maxRecDepth 100000 in
theorem slices_Clone_int_int.calls (A0 : Option Addr) (c0 : Nat) (l0 : List Int) (r : List Int) (w : World) (hr0 : Kd.C (Kd.int .i64) w A0 l0.length l0) (hc0 : l0.length ≤ c0) (h : slices_Clone_int_int.f l0 = some r) :
 Calls Try.prog 63 #[.slice A0 l0.length c0] w fun e w' => ∃ v0_ : Value, e = .returned (v0_) ∧ Kd.R (Kd.int .i64) 3 w' w.heap.size (fun _ => True) v0_ r ∧ Below w.heap.size w w' := by
 have HR0 := Aside0.mk hr0
 have HC0 := Aside0.mk hc0
 clear hr0 hc0
 have hq : ∀ (w : World) (a : Option Addr) (n c n' c' : Nat), (binOp .eql 28 (.slice a n c) (.slice none n' c')).run Try.prog w = .ok (.bool a.isNone) w := fun w a n c n' c' => Lib.run_eql_slice_nil w _ _ a n c n' c' Try.underlying28
 cases A0 with
 | none =>
  have hl : l0 = [] := by
   rcases Nat.eq_zero_or_pos l0.length with h0 | h0
   · exact List.eq_nil_of_length_eq_zero h0
   · obtain ⟨ad, e, _⟩ := HR0.out.2.2 h0
     cases e
  subst hl
  have H : (some (([] : List Int) ++ [])) = some r := h
  obtain rfl := Option.some.inj H
  clear h H
  go_enter Try.func63, Try.ntmps63
  go_wp2
  go_ret
  exact ⟨_, rfl, Kd.R_nil _ _ _ _ _, Below.refl _ _⟩
 | some ad0 =>
  have HB := Aside0.mk (Below.refl w.heap.size w)
  have H : ((some (([] : List Int) : List Int)).bind fun y103 => (if y103.length + l0.length < 17592186044416 then (some (y103 ++ l0)) else (none))) = some r := h
  clear h
  obtain ⟨y103, hy103⟩ : ∃ y_ : List Int, y_ = (([] : List Int)) := ⟨_, rfl⟩
  replace H : (if y103.length + l0.length < 17592186044416 then (some (y103 ++ l0)) else (none)) = some r := by first | (rw [hy103]; with_reducible exact H) | (have H2_ := (Option.bind_some _ _).symm.trans H; rw [hy103]; with_reducible exact H2_) | (have H2_ := (Option.bind_some _ _).symm.trans H; with_reducible exact H2_) | with_reducible exact H | (rw [hy103]; exact H) | exact H
  have Ny103 := Aside0.mk hy103
  clear hy103
  by_cases c2 : y103.length + l0.length < 17592186044416
  · rw [if_pos c2] at H
    have LMc2 := Aside0.mk c2
    clear c2
    obtain ⟨y106, hy106⟩ : ∃ y_ : List Int, y_ = (y103 ++ l0) := ⟨_, rfl⟩
    replace H : (some y106) = some r := by first | (rw [hy106]; with_reducible exact H) | (have H2_ := (Option.bind_some _ _).symm.trans H; rw [hy106]; with_reducible exact H2_) | (have H2_ := (Option.bind_some _ _).symm.trans H; with_reducible exact H2_) | with_reducible exact H | (rw [hy106]; exact H) | exact H
    have Ny106 := Aside0.mk hy106
    clear hy106
    obtain rfl := Option.some.inj H
    go_enter Try.func63, Try.ntmps63
    go_wp2_with (first | ((with_reducible refine gate_dst (N := 5) rfl ?_); refine Kd.R_lit (Kd.int .i64) _ 3 ?hg (N := 5) ?hd (xs := ([] : List Int)) (inner := []) (ok := fun _ => True) (okp := fun _ => True) ?hr ?hp (fun _ hk => hk) trivial (Below.refl _ _) (Nat.le_refl _) (by simp) ?_; (case hd => rfl); (case hg => rfl); (case hr => first | (go_simp; done) | (go_simp; rfl)); (case hp => exact (Reps.none _ _)); intro v104 w3 ho4 hb hg_ hnew_; clear hg_ hnew_; (first | rw [← Ny103.out] at ho4 | (simp only [Int.reduceToNat] at ho4; rw [← Ny103.out] at ho4)); have n0_ := Aside0.mk (Kd.R_lower ho4 (below_size (bel_))); have n1_ := Aside0.mk (below_step (bel_) hb); clear HB; have HO105 := n0_; have HB := n1_; clear n0_ n1_; clear hb ho4) | ((with_reducible refine gate_builtin (b := .append) (xs := #[.tmp 5, .tmp 6]) rfl ?_); at_builtin; refine Kd.R_append_rows (Kd.int .i64) (w0 := w) w.heap.size rfl (.tmp 5) (.tmp 6) 28 3 (.int .i64 0) 8 rfl Try.underlying28 info3 rfl (by decide) (by omega) v104 y103 l0 _ _ _ (fun _ => True) (fun _ => False) rfl rfl ?aO ?aR (fun _ _ h => h) (fun _ h => h.elim) ?aF ?aB ?aS ?aL ?_; (case aR => repeat (first | exact (Kd.C_below HR0.out HB.out) | (with_reducible refine Kd.C_alloc ?_ _) | (with_reducible refine Kd.C_drewN ?_ _) | (with_reducible refine Kd.C_drew ?_))); (case aB => exact (bel_)); (case aF => exact (fun _ _ => trivial)); (case aO => exact (nR_ HO105.out)); (case aS => exact (below_size (bel_))); (case aL => have := LMc2.out; omega); intro v107 w5 ho hb hg hat; rw [← Ny106.out] at ho; have n0_ := Aside0.mk (hb); have n1_ := Aside0.mk (ho); clear HB; clear HO105; have HB := n0_; have HO108 := n1_; clear n0_ n1_; clear ho hb hg hat))
    go_ret
    exact ⟨_, er_, by (with_reducible repeat (first | apply Kd.R_alloc | apply Kd.R_drewN | apply Kd.R_drew)); exact HO108.out, bel_⟩
  · rw [if_neg c2] at H
    exact absurd H (by simp)

end Go.Proofs.Ytdinepghommchaa.V

-- Written by a program of this session over the kit's printer: wip/gp.py.
namespace Go.Proofs.Ytdinepghommchaa.V
open Go.RowKit Go.Proofs.YtdinepghommchaaW.PrintWords Go.Proofs.YtdinepghommchaaW.PrintLast Go.Proofs.YtdinepghommchaaW.PrintMore
attribute [local go_sem] max2_int min2_int max_two min_two max_three min_three max_four min_four   -- for this text's walks alone
set_option linter.unusedVariables false
set_option linter.unusedSimpArgs false

/-! ### veils_copied: function 43 -/
def veils_copied.l0 : Nat → List (List Int) → List (List Int) → Int → Int → Option ((List (List Int)))
 | 0, _, _, _, _ => none
 | k + 1, x3, x6, x7, x8 => if x8 < x7 then (if 0 ≤ x8 then (if x8 < (x6.length : Int) then ((slices_Clone_int_int.f (rd_L1 x6 x8)).bind fun t110 => (if x3.length < 5864062014805 then (veils_copied.l0 k (x3 ++ [t110]) x6 x7 (wrap64 (x8 + 1))) else (none))) else (none)) else (none)) else (some x3)
def veils_copied.f (k : Nat) (l0 : List (List Int)) : Option ((List (List Int))) := veils_copied.l0 k ([] : List (List Int)) l0 (l0.length : Int) 0
set_option maxHeartbeats 8000000 in
set_option maxRecDepth 100000 in
theorem veils_copied.calls (k : Nat) (A0 : Option Addr) (c0 : Nat) (l0 : List (List Int)) (r : List (List Int)) (w : World) (hr0 : Kd.C (Kd.slice 3 (Kd.int .i64)) w A0 l0.length l0) (hc0 : l0.length ≤ c0) (h : veils_copied.f k l0 = some r) :
 Calls Try.prog 43 #[.slice A0 l0.length c0] w fun e w' => ∃ v0_ : Value, e = .returned (v0_) ∧ Kd.S (Kd.slice 3 (Kd.int .i64)) 28 w' w.heap.size (fun _ => True) v0_ r ∧ Below w.heap.size w w' := by
 have HR0 := Aside0.mk hr0
 have HC0 := Aside0.mk hc0
 clear hr0 hc0
 have HB := Aside0.mk (Below.refl w.heap.size w)
 have H : (veils_copied.l0 k ([] : List (List Int)) l0 (l0.length : Int) 0) = some r := h
 clear h
 have H' := Aside0.mk H
 clear H
 go_enter Try.func43, Try.ntmps43
 go_wp2
 go_loopg [3, 8] k (fun kq v3 v8 w' => ∃ (x3_1 : List (List Int)) (x8_1 : Int), v8 = .int .i64 x8_1 ∧ Aside0 (veils_copied.l0 kq x3_1 l0 (l0.length : Int) x8_1 = some r) ∧ Aside0 (kq ≤ k) ∧ Aside0 (Kd.S (Kd.slice 3 (Kd.int .i64)) 28 w' w.heap.size (fun _ => True) v3 x3_1) ∧ Aside0 (Below w.heap.size w w'))
 case atStart => exact ⟨(([] : List (List Int))), (0), rf_, H', ⟨Nat.le_refl _⟩, ⟨by first | exact Kd.S_nil _ _ _ _ _ | exact Kd.N_nil _ _ _ _ _ | exact Kd.V_nil _ _ _ _ _ | exact Kd.Q_nil _ _ _ _ _ | exact Kd.R_nil _ _ _ _ _⟩, ⟨bel_⟩⟩
 case round =>
  clear H'
  obtain ⟨x3_1, x8_1, rfl, HA, HK1, HO_3, HB⟩ := hrel
  cases gk with
  | zero => exact absurd HA.out (by simp [veils_copied.l0])
  | succ k1 =>
   have H := HA.out
   clear HA
   simp only [veils_copied.l0] at H
   by_cases c2 : x8_1 < (l0.length : Int)
   · rw [if_pos c2] at H
     have c2b0 : decide (x8_1 < (l0.length : Int)) = true := decide_eq_true c2
     clear c2
     by_cases c3 : 0 ≤ x8_1
     · rw [if_pos c3] at H
       have c3b0 : decide (0 ≤ x8_1) = true := decide_eq_true c3
       clear c3
       by_cases c4 : x8_1 < (l0.length : Int)
       · rw [if_pos c4] at H
         have c4b0 : decide (x8_1 < (l0.length : Int)) = true := decide_eq_true c4
         clear c4
         replace H := Option.bind_eq_some_iff.mp H
         obtain ⟨t110, A50, H⟩ := H
         replace H : (if x3_1.length < 5864062014805 then (veils_copied.l0 k1 (x3_1 ++ [t110]) l0 (l0.length : Int) (wrap64 (x8_1 + 1))) else (none)) = some r := H
         have A5 := Aside0.mk A50
         clear A50
         by_cases c6 : x3_1.length < 5864062014805
         · rw [if_pos c6] at H
           have LMc6 := Aside0.mk c6
           clear c6
           obtain ⟨y113, hy113⟩ : ∃ y_ : List (List Int), y_ = (x3_1 ++ [t110]) := ⟨_, rfl⟩
           replace H : (veils_copied.l0 k1 y113 l0 (l0.length : Int) (wrap64 (x8_1 + 1))) = some r := by first | (rw [hy113]; with_reducible exact H) | (have H2_ := (Option.bind_some _ _).symm.trans H; rw [hy113]; with_reducible exact H2_) | (have H2_ := (Option.bind_some _ _).symm.trans H; with_reducible exact H2_) | with_reducible exact H | (rw [hy113]; exact H) | exact H
           have Ny113 := Aside0.mk hy113
           clear hy113
           have H' := Aside0.mk H
           clear H
           obtain ⟨ad109, A109_0, c109_0, e109, hx109_0, HC109_0, HR109_0, p109, q109⟩ := al_ HR0.out x8_1
           cases e109
           replace hx109_0 := (HB.out.cell (World.block_lt_of_cell? w _ hx109_0)).trans hx109_0
           go_wp2_with (first | ((with_reducible refine gate_callee (f := 63) rfl ?_); refine goesL_ (some 14) rfl rfl Try.func63 (by kernel_rfl) rfl #[.slice A109_0 (rd_L1 l0 x8_1).length c109_0] rfl ar_ ?_; (with_reducible refine (slices_Clone_int_int.calls _ _ (rd_L1 l0 x8_1) t110 _ ?side1 ?side2 A5.out).mono ?_); (case side1 => repeat (first | exact (Kd.C_below HR109_0.out HB.out) | (with_reducible refine Kd.C_alloc ?_ _) | (with_reducible refine Kd.C_drewN ?_ _) | (with_reducible refine Kd.C_drew ?_))); (case side2 => exact HC109_0.out); rintro e w7 ⟨v111, rfl, ho0, hb⟩; refine ⟨_, rfl, ?_⟩; have n0_ := Aside0.mk (Kd.S_elder' (nS_ HO_3.out) (Kd.R_base ho0) hb); have n1_ := Aside0.mk (Kd.R_lower ho0 (below_size (bel_))); have n2_ := Aside0.mk (below_step (bel_) hb); clear HO_3; clear HB; have HO_3 := n0_; have HO112 := n1_; have HB := n2_; clear n0_ n1_ n2_; (try clear hb); (try clear hb2); (try clear hk); (try clear hi); (try clear ho0); obtain ⟨Ao9, co9, eo9⟩ := Kd.R_slice HO112.out; subst eo9) | ((with_reducible refine gate_builtin (b := .append) (xs := #[.tmp 12, .tmp 15]) rfl ?_); at_builtin; refine Kd.S_append (Kd.slice 3 (Kd.int .i64)) (w0 := w) w.heap.size rfl (.tmp 12) (.tmp 15) 27 28 (.slice none 0 0) 24 rfl Try.underlying27 info28 rfl (by decide) (by omega) u3 x3_1 t110 [.slice Ao9 t110.length co9] (fun _ => True) (fun k_ => some k_ = (.slice Ao9 t110.length co9 : Value).ownBlock) rfl rfl ?aP (fun k_ hk_ => ((Kd.R_mono (ok' := fun k_ => ((fun _ => True)) k_ ∧ some k_ ≠ (u3 : Value).ownBlock) (Kd.R_apart' (HO112.out) (Kd.S_typed HO_3.out) (by decide)) (fun k_ hk => ⟨trivial, hk.2⟩))).1 k_ hk_.symm) ?aF ?aO ?aB ?aS ?aL ?_; (case aP => exact Kd.M_row (Kd.R_mono (Kd.R_tight rfl (Kd.R_mono (ok' := fun k_ => ((fun _ => True)) k_ ∧ some k_ ≠ (u3 : Value).ownBlock) (Kd.R_apart' (HO112.out) (Kd.S_typed HO_3.out) (by decide)) (fun k_ hk => ⟨trivial, hk.2⟩))) (fun _ h_ => h_))); (case aB => exact (bel_)); (case aF => exact (fun _ _ => trivial)); (case aO => exact (by (with_reducible repeat (first | apply Kd.S_alloc | apply Kd.S_drewN | apply Kd.S_drew)); exact Kd.S_mono HO_3.out (fun k_ hk => ⟨trivial, fun e_ => hk.2 e_⟩))); (case aS => exact (below_size (bel_))); (case aL => have := LMc6.out; omega); intro v114 w8 ho hb hg hat; rw [← Ny113.out] at ho; have n0_ := Aside0.mk (hb); have n1_ := Aside0.mk (ho); clear HB; clear HO_3; clear HO112; have HB := n0_; have HO115 := n1_; clear n0_ n1_; clear ho hb hg hat))
           go_roundg k1
           case measure => have := HK1.out; omega
           case rel => exact ⟨(y113), (wrap64 (x8_1 + 1)), rf_, H', ⟨by have := HK1.out; omega⟩, ⟨nS_ HO115.out⟩, ⟨bel_⟩⟩
         · rw [if_neg c6] at H
           exact absurd H (by simp)
       · rw [if_neg c4] at H
         exact absurd H (by simp)
     · rw [if_neg c3] at H
       exact absurd H (by simp)
   · rw [if_neg c2] at H
     have c2b0 : decide (x8_1 < (l0.length : Int)) = false := decide_eq_false c2
     clear c2
     obtain rfl := Option.some.inj H
     go_wp2
     go_ret
     exact ⟨_, er_, by (with_reducible repeat (first | apply Kd.S_alloc | apply Kd.S_drewN | apply Kd.S_drew)); exact HO_3.out, bel_⟩

end Go.Proofs.Ytdinepghommchaa.V

/- The walk of All's closure: a copy of the table is appended to what has been found. -/
namespace Go.Proofs.Ytdinepghommchaa.V
open Go.RowKit Go.Proofs.YtdinepghommchaaW.PrintWords Go.Proofs.YtdinepghommchaaW.PrintLast Go.Proofs.YtdinepghommchaaW.PrintMore
set_option linter.unusedVariables false
set_option linter.unusedSimpArgs false

def veils_All1.f (t : List (List Int)) (out : List (List (List Int))) : Option (List (List (List Int))) := (veils_copied.f 1000 t).bind fun u => if out.length < 5864062014805 then some (out ++ [u]) else none

/-- What has been found lies behind a boxed variable, in new memory. -/
def AccAll (b hi : Nat) (W : World) (out : List (List (List Int))) : Prop :=
 ∃ v, W.heap[b]? = some (.cells #[v] 22 (0, 0)) ∧ Kd.S (Kd.slice 28 (Kd.slice 3 (Kd.int .i64))) 27 W hi (fun k => hi ≤ k) v out
theorem AccAll.same {b lo hi : Nat} {W W' : World} {out : List (List (List Int))} (h : AccAll b hi W out) (hb : b < lo) (hs : Same (fun k => ¬ (lo ≤ k ∧ k < hi)) W W') : AccAll b hi W' out := by
 obtain ⟨v, h1, h2⟩ := h
 exact ⟨v, hs.blk h1 (by omega), Kd.S_step h2 (fun k hk hl => hs.block k (by omega) hl)⟩

set_option maxHeartbeats 4000000 in
set_option maxRecDepth 100000 in
theorem veils_All1.calls {lo0 lo hi b : Nat} (hb0 : lo0 ≤ b) (hb1 : b < lo) (hle : lo ≤ hi) (W : World) (A : Option Addr) (c : Nat) (t : List (List Int)) (out out' : List (List (List Int))) (hw : hi ≤ W.heap.size) (hr : Kd.C (Kd.slice 3 (Kd.int .i64)) W A t.length t) (hc : t.length ≤ c)
 (ha : AccAll b hi W out) (h : veils_All1.f t out = some out') :
 Calls Try.prog 42 #[.slice A t.length c, .pointer (some ⟨b, 0, none⟩)] W fun e W' => e = .returned (.tuple #[]) ∧ AccAll b hi W' out' ∧ Same (fun k => k < lo0 ∨ (lo ≤ k ∧ k < hi)) W W' := by
 obtain ⟨vO, hbx, ho⟩ := ha
 obtain ⟨u, hu, h⟩ := Option.bind_eq_some_iff.mp h
 by_cases hlim : out.length < 5864062014805
 · rw [if_pos hlim] at h
   obtain rfl := Option.some.inj h
   have hcell : W.drew.cell? ⟨b, 0, none⟩ = some vO := (blk_cell (blk_drew hbx) 0).trans rfl
   have HR := Aside0.mk (Kd.C_drew hr)
   have HC := Aside0.mk hc
   have HU := Aside0.mk hu
   have HX := Aside0.mk (blk_drew hbx)
   have HO := Aside0.mk (Kd.S_drew ho)
   have HW := Aside0.mk (show hi ≤ W.drew.heap.size from hw)
   have HL := Aside0.mk hlim
   have HS := Aside0.mk (show Same (fun k => k < lo0 ∨ (lo ≤ k ∧ k < hi)) W W.drew from Same.drewN W 1)
   clear hr hc hu h hbx ho hw hlim
   go_enter Try.func42, Try.ntmps42
   refine start_ (n := 6) (S := fun w' => w'.cell? ⟨b, 0, none⟩ = some vO) (ds := [5]) #[false, false, false, false, false, false] (by kernel_rfl) rfl rfl (hcell) (fun hHeld => ?_)
   generalize W.drew = w1 at HR HX HO HW HS hcell hHeld ⊢
   refine take_ (i := 0) (N := some 3) (v := ?_) (a' := ?_) #[true, false, false, false, false, false] rfl rfl (by kernel_rfl) (fun _ _ _ h => h) (Or.inl ⟨by rfl, ?_⟩) hHeld ?_ ?_
   rotate_left
   · intro w' s0
     go_simp
     with_reducible rfl
   rotate_left
   · simp only [Act.put, List.setIfInBounds_toArray, List.set_cons_zero, List.set_cons_succ]
     rfl
   refine pure_ (i := 1) (N := some 4) (v := ?_) (a' := ?_) #[true, true, false, false, false, false] rfl rfl (by kernel_rfl) (fun _ _ _ h => h) (Or.inl ⟨by rfl, ?_⟩) ?_ ?_
   rotate_left
   · intro w'
     go_simp
     with_reducible rfl
   rotate_left
   · simp only [Act.put, List.setIfInBounds_toArray, List.set_cons_zero, List.set_cons_succ]
     rfl
   refine one_ (i := 2) (N := some 5) #[true, true, true, false, false, false] rfl rfl (by kernel_rfl) (by decide) (fun K hK => ?_)
   refine goes_ Try.func43 (by kernel_rfl) rfl #[.slice A t.length c] (by rfl) rfl rfl (by (try simp only [List.map_toArray, List.map_cons, List.map_nil]); first | done | rfl) ?_
   refine (veils_copied.calls 1000 A c t u w1 HR.out HC.out HU.out).mono ?_
   rintro e w2 ⟨v2, rfl, ho2, hb2⟩
   refine ⟨_, rfl, ?_⟩
   have HX2 := Aside0.mk (blk_below HX.out hb2)
   have HO2 := Aside0.mk (Kd.S_below (Kd.S_bound HO.out) hb2)
   have HN2 := Aside0.mk (Kd.S_bound ho2)
   have HB2 := Aside0.mk (show Below hi w1 w2 from hb2.mono HW.out)
   have HW2 := Aside0.mk (Nat.le_trans HW.out hb2.size)
   have HT := Aside0.mk (Kd.S_lt HO.out)
   have HS2 := Aside0.mk (HS.out.trans (Same.of_below hb2))
   have HZ2 := Aside0.mk hb2.size
   have hHeld2 : w2.cell? ⟨b, 0, none⟩ = some vO := (blk_cell HX2.out 0).trans rfl
   clear ho2 hb2
   refine hK.out _ _ hHeld2 (fun hHeld => ?_)
   clear hK K
   refine norm_ (a' := ?_) ?_ ?_
   rotate_left
   · show Act.put _ (some 5) _ = _
     simp only [Act.put, List.setIfInBounds_toArray, List.set_cons_zero, List.set_cons_succ]
     rfl
   obtain ⟨A2, c2, e2⟩ := Kd.S_slice HN2.out
   subst e2
   refine one_ (i := 3) (N := some 6) #[true, true, true, true, false, false] rfl rfl (by kernel_rfl) (by decide) (fun K hK => ?_)
   refine value_ (w1 := ?_) (v := ?_) (by rfl) rfl ?_ ?_
   rotate_left 2
   · go_simp
     constructor
     · rfl
     · rfl
   refine hK.out _ _ ((World.cell?_alloc_lt _ _ _ (World.block_lt_of_cell? _ _ (hHeld))).trans (hHeld)) (fun hHeld => ?_)
   clear hK K
   refine norm_ (a' := ?_) ?_ ?_
   rotate_left
   · show Act.put _ (some 6) _ = _
     simp only [Act.put, List.setIfInBounds_toArray, List.set_cons_zero, List.set_cons_succ]
     rfl
   refine one_ (i := 4) (N := some 7) #[true, true, true, true, true, false] rfl rfl (by kernel_rfl) (by decide) (fun K hK => ?_)
   refine Kd.S_append_step (Kd.slice 28 (Kd.slice 3 (Kd.int .i64))) (w0 := w1) hi (by rfl) (.tmp 3) (.tmp 6) 22 27 (.slice none 0 0) 24 rfl Try.underlying22 info27 rfl (by decide) (by omega) vO out u [.slice A2 u.length c2] (fun k => hi ≤ k) (fun k => w1.heap.size ≤ k) rfl rfl ?aP ?aQ ?aF ?aO ?aB ?aS ?aL ?_
   case aP => exact Kd.M_row (Kd.R_mono (Kd.R_lower (Kd.S_R HN2.out) HW.out) (fun k hk => hk.2.1))
   case aQ => exact fun k hk => ⟨by have := HW.out; omega, fun e => by have := HT.out k e.symm; omega⟩
   case aF => exact fun k hk => by have := HW2.out; omega
   case aO => exact Kd.S_mono HO2.out (fun k hk => ⟨hk.1, by have := hk.2.2.1; omega⟩)
   case aB => exact HB2.out
   case aS => exact HW2.out
   case aL => have := HL.out; omega
   intro v3 w3 ho3 hb3 hg3 hat3
   have HO3 := Aside0.mk ho3
   have hne : some b ≠ vO.ownBlock := fun e => by have := Kd.S_base HO2.out b e.symm; omega
   have HX3 := Aside0.mk (blk_grown HX2.out hg3 hne)
   have HS3 := Aside0.mk (show Same (fun k => k < lo0 ∨ (lo ≤ k ∧ k < hi)) w2 w3 from ⟨hg3.os, hg3.tape, hg3.output, hg3.size, fun k hk hl => hg3.block k hl (fun e => by have := Kd.S_base HO2.out k e.symm; omega)⟩)
   have hHeld3 : w3.cell? ⟨b, 0, none⟩ = some vO := (blk_cell HX3.out 0).trans rfl
   clear ho3 hb3 hg3 hat3
   refine hK.out _ _ hHeld3 (fun hHeld => ?_)
   clear hK K
   refine norm_ (a' := ?_) ?_ ?_
   rotate_left
   · show Act.put _ (some 7) _ = _
     simp only [Act.put, List.setIfInBounds_toArray, List.set_cons_zero, List.set_cons_succ]
     rfl
   have hfz : w3.frozen? ⟨b, 0, none⟩ = false := blk_frozen HX3.out 0
   obtain ⟨A3, c3, e3⟩ := Kd.S_slice HO3.out
   subst e3
   refine last_ (i := 5) (N := none) #[true, true, true, true, true, true] rfl rfl (by kernel_rfl) (by decide) (fun K hK => ?_)
   refine skip_ (w1 := ?_) (by rfl) rfl ?_ ?_
   rotate_left
   · go_simp
     rfl
   refine hK.out _ _ ?_
   clear hK K
   refine done_ (by kernel_rfl) ?_
   go_wp2
   first | go_end0 | ((try simp only [Exit.inBlock, Exit.then]); refine bodyPost_ret (results_none rfl _ _ _) rfl ?_)
   refine ⟨rfl, ⟨_, by simpa using blk_set HX3.out 0 _, Kd.S_far HO3.out (fun k hk => by show k ≠ b; omega) _⟩, (HS2.out.trans HS3.out).trans (Same.setCell _ _ _ (fun hk => by rcases hk with hk | hk <;> dsimp only at hk <;> omega))⟩
 · rw [if_neg hlim] at h
   cases h
end Go.Proofs.Ytdinepghommchaa.V

/- The walk of All: the search with the closure that collects copies. -/
namespace Go.Proofs.Ytdinepghommchaa.V
open Go.RowKit Go.Proofs.YtdinepghommchaaW.PrintWords Go.Proofs.YtdinepghommchaaW.PrintLast Go.Proofs.YtdinepghommchaaW.PrintMore
set_option linter.unusedVariables false
set_option linter.unusedSimpArgs false

def veils_All.f (n : Int) : Option (List (List (List Int)) × Int) := if n < 1 then some ([], 2) else if 5 < n then some ([], 2) else (veils_all.f n.toNat veils_All1.f []).bind fun r => some (r, 0)

set_option maxHeartbeats 4000000 in
set_option maxRecDepth 100000 in
theorem veils_All.calls (a0 : Int) (r1 : List (List (List Int))) (r2 : Int) (w : World) (h : veils_All.f a0 = some (r1, r2)) :
 Calls Try.prog 13 #[.int .i64 a0] w fun e w' => ∃ v0_ : Value, e = .returned (.tuple #[v0_, .int .i64 r2]) ∧ Kd.R (Kd.slice 28 (Kd.slice 3 (Kd.int .i64))) 27 w' w.heap.size (fun _ => True) v0_ r1 ∧ Below w.heap.size w w' := by
 unfold veils_All.f at h
 by_cases c1 : a0 < 1
 · rw [if_pos c1] at h
   obtain ⟨rfl, rfl⟩ := Prod.mk.inj (Option.some.inj h)
   have d1 : decide (a0 < 1) = true := decide_eq_true c1
   clear h c1
   go_enter Try.func13, Try.ntmps13
   go_wp2
   go_ret2
   exact ⟨.slice none 0 0, rfl, Kd.R_nil _ _ _ _ _, by repeat (first | exact Below.refl _ _ | apply below_alloc)⟩
 · rw [if_neg c1] at h
   by_cases c2 : 5 < a0
   · rw [if_pos c2] at h
     obtain ⟨rfl, rfl⟩ := Prod.mk.inj (Option.some.inj h)
     have d1 : decide (a0 < 1) = false := decide_eq_false c1
     have d2 : decide (5 < a0) = true := decide_eq_true c2
     clear h c1 c2
     go_enter Try.func13, Try.ntmps13
     go_wp2
     go_ret2
     exact ⟨.slice none 0 0, rfl, Kd.R_nil _ _ _ _ _, by repeat (first | exact Below.refl _ _ | apply below_alloc)⟩
   · rw [if_neg c2] at h
     obtain ⟨r, hr, h⟩ := Option.bind_eq_some_iff.mp h
     obtain ⟨rfl, rfl⟩ := Prod.mk.inj (Option.some.inj h)
     obtain ⟨n, rfl⟩ := Int.eq_ofNat_of_zero_le (show 0 ≤ a0 by omega)
     have hn1 : 1 ≤ n := by omega
     have hn5 : n ≤ 5 := by omega
     rw [Int.toNat_natCast] at hr
     have d1 : decide ((n : Int) < 1) = false := decide_eq_false c1
     have d2 : decide (5 < (n : Int)) = false := decide_eq_false c2
     have d3 : decide (n < 1) = false := decide_eq_false (by omega)
     have d4 : decide (5 < n) = false := decide_eq_false (by omega)
     have HR := Aside0.mk hr
     clear h hr c1 c2
     have hmf : ∀ (fn : Fn) (first cap : Array Value) (w : World), (Instr.makeFunc fn first cap).run Try.prog w = .ok (.func fn first cap) w := fun _ _ _ _ => rfl
     have B1 := Aside0.mk (blk_new w (.cells #[.slice none 0 0] 22))
     have hF : Aside0 (∀ hi, (w.alloc (.cells #[.slice none 0 0] 22)).heap.size ≤ hi → Found w.heap.size (w.alloc (.cells #[.slice none 0 0] 22)).heap.size hi 42 #[.pointer (some ⟨w.heap.size, 0, none⟩)] veils_All1.f (AccAll w.heap.size hi)) := ⟨fun hi hh => ⟨fun W A c t a b hw hr hc ha h => veils_All1.calls (lo0 := w.heap.size) (lo := (w.alloc (.cells #[.slice none 0 0] 22)).heap.size) (hi := hi) (Nat.le_refl _) (by simp) hh W A c t a b hw hr hc ha h, fun W W' a ha hs => ha.same (by simp) hs⟩⟩
     have hA : Aside0 (∀ hi, (w.alloc (.cells #[.slice none 0 0] 22)).heap.size ≤ hi → AccAll w.heap.size hi (w.alloc (.cells #[.slice none 0 0] 22)) []) := ⟨fun hi _ => ⟨_, B1.out, Kd.S_nil _ _ _ _ _⟩⟩
     go_enter Try.func13, Try.ntmps13
     go_wp2_with (go_at_call 41; refine (veils_all.calls (Acc := AccAll w.heap.size) hn1 hn5 Try.func42 (by kernel_rfl) rfl [] r _ hF (by simp) hA ⟨HR.out⟩).mono ?_; rintro e w1 ⟨rfl, ⟨hi, hhi, v, hv, hS⟩, hsame⟩; have cv := (blk_cell hv 0).trans (rfl : _ = some v); have HS := Aside0.mk (Kd.S_mono (ok' := fun _ => True) (Kd.S_lower hS (base' := w.heap.size) (by simp at hhi; omega)) (fun _ _ => trivial)); have HM := Aside0.mk hsame; clear hv hS hsame hhi)
     go_ret2
     exact ⟨v, rfl, Kd.S_R HS.out, (below_alloc (Below.refl _ _) _).trans ⟨HM.out.os, HM.out.tape, HM.out.output, HM.out.size, fun k hk => HM.out.block k hk (by simp; omega)⟩⟩
end Go.Proofs.Ytdinepghommchaa.V
