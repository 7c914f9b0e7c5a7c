/- The walks, their words and the pure laws under the claim of VeilsSteep, part: Gk. -/
import Derived.Test.YtdinepghommchaaCVeilsSteep3
import Derived.Test.YtdinepghommchaaCVeilsSteep6
/- What the kernel computes of all tables in the shape of heights for VeilsSteep. -/
namespace Go.Proofs.Ytdinepghommchaa.V
open Go.RowKit Go.Proofs.YtdinepghommchaaW.PrintWords Go.Proofs.YtdinepghommchaaW.PrintLast Go.Proofs.YtdinepghommchaaW.PrintMore
/-- What is true of each table in the shape of heights. -/
def hgtP (l : List (List Int)) : Bool :=
 match veils_Of.f 200 l with
 | some (v, e) => decide (e = 0) && (clochelaw09_steep.f 200 l == some true) && (clocheref09_IsVeil.f 100 v == some true) && (veils_Heights.f 200 v == some (l, 0)) && (clocheref09_Same.f 200 l l == some true)
 | none => false
set_option maxRecDepth 1000000 in
theorem hgtP1 : (hgt 1 2).all hgtP = true := by decide +kernel
set_option maxRecDepth 1000000 in
theorem hgtP2 : (hgt 2 3).all hgtP = true := by decide +kernel
set_option maxRecDepth 1000000 in
theorem hgtP3 : (hgt 3 4).all hgtP = true := by decide +kernel
set_option maxRecDepth 1000000 in
theorem hgtP4 : (hgt 4 5).all hgtP = true := by decide +kernel
set_option maxRecDepth 1000000 in
theorem hgtP5_0 : subH 5 hgtP 3 3 [[0, 1, 2, 3, 4, 5], [1, 0, 1, 2, 3, 4], [2, 1, 0, 1, 2, 3]] = true := by decide +kernel
set_option maxRecDepth 1000000 in
theorem hgtP5_1 : subH 5 hgtP 3 3 [[0, 1, 2, 3, 4, 5], [1, 0, 1, 2, 3, 4], [2, 1, 2, 1, 2, 3]] = true := by decide +kernel
set_option maxRecDepth 1000000 in
theorem hgtP5_2 : subH 5 hgtP 3 3 [[0, 1, 2, 3, 4, 5], [1, 0, 1, 2, 3, 4], [2, 1, 2, 3, 2, 3]] = true := by decide +kernel
set_option maxRecDepth 1000000 in
theorem hgtP5_3 : subH 5 hgtP 3 3 [[0, 1, 2, 3, 4, 5], [1, 0, 1, 2, 3, 4], [2, 1, 2, 3, 4, 3]] = true := by decide +kernel
set_option maxRecDepth 1000000 in
theorem hgtP5_4 : subH 5 hgtP 3 3 [[0, 1, 2, 3, 4, 5], [1, 2, 1, 2, 3, 4], [2, 1, 0, 1, 2, 3]] = true := by decide +kernel
set_option maxRecDepth 1000000 in
theorem hgtP5_5 : subH 5 hgtP 3 3 [[0, 1, 2, 3, 4, 5], [1, 2, 1, 2, 3, 4], [2, 1, 2, 1, 2, 3]] = true := by decide +kernel
set_option maxRecDepth 1000000 in
theorem hgtP5_6 : subH 5 hgtP 3 3 [[0, 1, 2, 3, 4, 5], [1, 2, 1, 2, 3, 4], [2, 1, 2, 3, 2, 3]] = true := by decide +kernel
set_option maxRecDepth 1000000 in
theorem hgtP5_7 : subH 5 hgtP 3 3 [[0, 1, 2, 3, 4, 5], [1, 2, 1, 2, 3, 4], [2, 1, 2, 3, 4, 3]] = true := by decide +kernel
set_option maxRecDepth 1000000 in
theorem hgtP5_8 : subH 5 hgtP 3 3 [[0, 1, 2, 3, 4, 5], [1, 2, 1, 2, 3, 4], [2, 3, 2, 1, 2, 3]] = true := by decide +kernel
set_option maxRecDepth 1000000 in
theorem hgtP5_9 : subH 5 hgtP 3 3 [[0, 1, 2, 3, 4, 5], [1, 2, 1, 2, 3, 4], [2, 3, 2, 3, 2, 3]] = true := by decide +kernel
set_option maxRecDepth 1000000 in
theorem hgtP5_10 : subH 5 hgtP 3 3 [[0, 1, 2, 3, 4, 5], [1, 2, 1, 2, 3, 4], [2, 3, 2, 3, 4, 3]] = true := by decide +kernel
set_option maxRecDepth 1000000 in
theorem hgtP5_11 : subH 5 hgtP 3 3 [[0, 1, 2, 3, 4, 5], [1, 2, 3, 2, 3, 4], [2, 1, 2, 1, 2, 3]] = true := by decide +kernel
set_option maxRecDepth 1000000 in
theorem hgtP5_12 : subH 5 hgtP 3 3 [[0, 1, 2, 3, 4, 5], [1, 2, 3, 2, 3, 4], [2, 1, 2, 3, 2, 3]] = true := by decide +kernel
set_option maxRecDepth 1000000 in
theorem hgtP5_13 : subH 5 hgtP 3 3 [[0, 1, 2, 3, 4, 5], [1, 2, 3, 2, 3, 4], [2, 1, 2, 3, 4, 3]] = true := by decide +kernel
set_option maxRecDepth 1000000 in
theorem hgtP5_14 : subH 5 hgtP 3 3 [[0, 1, 2, 3, 4, 5], [1, 2, 3, 2, 3, 4], [2, 3, 2, 1, 2, 3]] = true := by decide +kernel
set_option maxRecDepth 1000000 in
theorem hgtP5_15 : subH 5 hgtP 3 3 [[0, 1, 2, 3, 4, 5], [1, 2, 3, 2, 3, 4], [2, 3, 2, 3, 2, 3]] = true := by decide +kernel
set_option maxRecDepth 1000000 in
theorem hgtP5_16 : subH 5 hgtP 3 3 [[0, 1, 2, 3, 4, 5], [1, 2, 3, 2, 3, 4], [2, 3, 2, 3, 4, 3]] = true := by decide +kernel
set_option maxRecDepth 1000000 in
theorem hgtP5_17 : subH 5 hgtP 3 3 [[0, 1, 2, 3, 4, 5], [1, 2, 3, 2, 3, 4], [2, 3, 4, 3, 2, 3]] = true := by decide +kernel
set_option maxRecDepth 1000000 in
theorem hgtP5_18 : subH 5 hgtP 3 3 [[0, 1, 2, 3, 4, 5], [1, 2, 3, 2, 3, 4], [2, 3, 4, 3, 4, 3]] = true := by decide +kernel
set_option maxRecDepth 1000000 in
theorem hgtP5_19 : subH 5 hgtP 3 3 [[0, 1, 2, 3, 4, 5], [1, 2, 3, 4, 3, 4], [2, 1, 2, 3, 2, 3]] = true := by decide +kernel
set_option maxRecDepth 1000000 in
theorem hgtP5_20 : subH 5 hgtP 3 3 [[0, 1, 2, 3, 4, 5], [1, 2, 3, 4, 3, 4], [2, 1, 2, 3, 4, 3]] = true := by decide +kernel
set_option maxRecDepth 1000000 in
theorem hgtP5_21 : subH 5 hgtP 3 3 [[0, 1, 2, 3, 4, 5], [1, 2, 3, 4, 3, 4], [2, 3, 2, 3, 2, 3]] = true := by decide +kernel
set_option maxRecDepth 1000000 in
theorem hgtP5_22 : subH 5 hgtP 3 3 [[0, 1, 2, 3, 4, 5], [1, 2, 3, 4, 3, 4], [2, 3, 2, 3, 4, 3]] = true := by decide +kernel
set_option maxRecDepth 1000000 in
theorem hgtP5_23 : subH 5 hgtP 3 3 [[0, 1, 2, 3, 4, 5], [1, 2, 3, 4, 3, 4], [2, 3, 4, 3, 2, 3]] = true := by decide +kernel
set_option maxRecDepth 1000000 in
theorem hgtP5_24 : subH 5 hgtP 3 3 [[0, 1, 2, 3, 4, 5], [1, 2, 3, 4, 3, 4], [2, 3, 4, 3, 4, 3]] = true := by decide +kernel
set_option maxRecDepth 1000000 in
theorem hgtP5_25 : subH 5 hgtP 3 3 [[0, 1, 2, 3, 4, 5], [1, 2, 3, 4, 3, 4], [2, 3, 4, 5, 4, 3]] = true := by decide +kernel
set_option maxRecDepth 1000000 in
theorem hgtP5_26 : subH 5 hgtP 3 3 [[0, 1, 2, 3, 4, 5], [1, 2, 3, 4, 5, 4], [2, 1, 2, 3, 4, 3]] = true := by decide +kernel
set_option maxRecDepth 1000000 in
theorem hgtP5_27 : subH 5 hgtP 3 3 [[0, 1, 2, 3, 4, 5], [1, 2, 3, 4, 5, 4], [2, 3, 2, 3, 4, 3]] = true := by decide +kernel
set_option maxRecDepth 1000000 in
theorem hgtP5_28 : subH 5 hgtP 3 3 [[0, 1, 2, 3, 4, 5], [1, 2, 3, 4, 5, 4], [2, 3, 4, 3, 4, 3]] = true := by decide +kernel
set_option maxRecDepth 1000000 in
theorem hgtP5_29 : subH 5 hgtP 3 3 [[0, 1, 2, 3, 4, 5], [1, 2, 3, 4, 5, 4], [2, 3, 4, 5, 4, 3]] = true := by decide +kernel
set_option maxRecDepth 1000000 in
theorem hgtP5_pre : hgt 5 3 = [[[0, 1, 2, 3, 4, 5], [1, 0, 1, 2, 3, 4], [2, 1, 0, 1, 2, 3]], [[0, 1, 2, 3, 4, 5], [1, 0, 1, 2, 3, 4], [2, 1, 2, 1, 2, 3]], [[0, 1, 2, 3, 4, 5], [1, 0, 1, 2, 3, 4], [2, 1, 2, 3, 2, 3]], [[0, 1, 2, 3, 4, 5], [1, 0, 1, 2, 3, 4], [2, 1, 2, 3, 4, 3]], [[0, 1, 2, 3, 4, 5], [1, 2, 1, 2, 3, 4], [2, 1, 0, 1, 2, 3]], [[0, 1, 2, 3, 4, 5], [1, 2, 1, 2, 3, 4], [2, 1, 2, 1, 2, 3]], [[0, 1, 2, 3, 4, 5], [1, 2, 1, 2, 3, 4], [2, 1, 2, 3, 2, 3]], [[0, 1, 2, 3, 4, 5], [1, 2, 1, 2, 3, 4], [2, 1, 2, 3, 4, 3]], [[0, 1, 2, 3, 4, 5], [1, 2, 1, 2, 3, 4], [2, 3, 2, 1, 2, 3]], [[0, 1, 2, 3, 4, 5], [1, 2, 1, 2, 3, 4], [2, 3, 2, 3, 2, 3]], [[0, 1, 2, 3, 4, 5], [1, 2, 1, 2, 3, 4], [2, 3, 2, 3, 4, 3]], [[0, 1, 2, 3, 4, 5], [1, 2, 3, 2, 3, 4], [2, 1, 2, 1, 2, 3]], [[0, 1, 2, 3, 4, 5], [1, 2, 3, 2, 3, 4], [2, 1, 2, 3, 2, 3]], [[0, 1, 2, 3, 4, 5], [1, 2, 3, 2, 3, 4], [2, 1, 2, 3, 4, 3]], [[0, 1, 2, 3, 4, 5], [1, 2, 3, 2, 3, 4], [2, 3, 2, 1, 2, 3]], [[0, 1, 2, 3, 4, 5], [1, 2, 3, 2, 3, 4], [2, 3, 2, 3, 2, 3]], [[0, 1, 2, 3, 4, 5], [1, 2, 3, 2, 3, 4], [2, 3, 2, 3, 4, 3]], [[0, 1, 2, 3, 4, 5], [1, 2, 3, 2, 3, 4], [2, 3, 4, 3, 2, 3]], [[0, 1, 2, 3, 4, 5], [1, 2, 3, 2, 3, 4], [2, 3, 4, 3, 4, 3]], [[0, 1, 2, 3, 4, 5], [1, 2, 3, 4, 3, 4], [2, 1, 2, 3, 2, 3]], [[0, 1, 2, 3, 4, 5], [1, 2, 3, 4, 3, 4], [2, 1, 2, 3, 4, 3]], [[0, 1, 2, 3, 4, 5], [1, 2, 3, 4, 3, 4], [2, 3, 2, 3, 2, 3]], [[0, 1, 2, 3, 4, 5], [1, 2, 3, 4, 3, 4], [2, 3, 2, 3, 4, 3]], [[0, 1, 2, 3, 4, 5], [1, 2, 3, 4, 3, 4], [2, 3, 4, 3, 2, 3]], [[0, 1, 2, 3, 4, 5], [1, 2, 3, 4, 3, 4], [2, 3, 4, 3, 4, 3]], [[0, 1, 2, 3, 4, 5], [1, 2, 3, 4, 3, 4], [2, 3, 4, 5, 4, 3]], [[0, 1, 2, 3, 4, 5], [1, 2, 3, 4, 5, 4], [2, 1, 2, 3, 4, 3]], [[0, 1, 2, 3, 4, 5], [1, 2, 3, 4, 5, 4], [2, 3, 2, 3, 4, 3]], [[0, 1, 2, 3, 4, 5], [1, 2, 3, 4, 5, 4], [2, 3, 4, 3, 4, 3]], [[0, 1, 2, 3, 4, 5], [1, 2, 3, 4, 5, 4], [2, 3, 4, 5, 4, 3]]] := by decide +kernel
theorem hgtP5 : (hgt 5 6).all hgtP = true := by
 rw [List.all_eq_true]
 intro q hq
 refine hgt_sub 3 3 (fun p hp => ?_) q hq
 rw [hgtP5_pre] at hp
 simp only [List.mem_cons, List.not_mem_nil, or_false] at hp
 rcases hp with rfl | rfl | rfl | rfl | rfl | rfl | rfl | rfl | rfl | rfl | rfl | rfl | rfl | rfl | rfl | rfl | rfl | rfl | rfl | rfl | rfl | rfl | rfl | rfl | rfl | rfl | rfl | rfl | rfl | rfl
 · exact hgtP5_0
 · exact hgtP5_1
 · exact hgtP5_2
 · exact hgtP5_3
 · exact hgtP5_4
 · exact hgtP5_5
 · exact hgtP5_6
 · exact hgtP5_7
 · exact hgtP5_8
 · exact hgtP5_9
 · exact hgtP5_10
 · exact hgtP5_11
 · exact hgtP5_12
 · exact hgtP5_13
 · exact hgtP5_14
 · exact hgtP5_15
 · exact hgtP5_16
 · exact hgtP5_17
 · exact hgtP5_18
 · exact hgtP5_19
 · exact hgtP5_20
 · exact hgtP5_21
 · exact hgtP5_22
 · exact hgtP5_23
 · exact hgtP5_24
 · exact hgtP5_25
 · exact hgtP5_26
 · exact hgtP5_27
 · exact hgtP5_28
 · exact hgtP5_29
theorem hgtP_all {t : List (List Int)} (h : ShapeH t) : hgtP t = true := by
 have hm := h.mem
 have a := h.n1
 have b := h.n5
 generalize t.length = n at hm a b
 have hn : n = 2 ∨ n = 3 ∨ n = 4 ∨ n = 5 ∨ n = 6 := by omega
 rcases hn with rfl | rfl | rfl | rfl | rfl
 · exact List.all_eq_true.mp hgtP1 t hm
 · exact List.all_eq_true.mp hgtP2 t hm
 · exact List.all_eq_true.mp hgtP3 t hm
 · exact List.all_eq_true.mp hgtP4 t hm
 · exact List.all_eq_true.mp hgtP5 t hm
end Go.Proofs.Ytdinepghommchaa.V
