/- The walks, their words and the pure laws under the claim of VeilsSteep, part: Gh. -/
import Derived.Test.YtdinepghommchaaCVeilsSteep3
import Derived.Test.YtdinepghommchaaCVeilsSteep6
/- What the kernel computes of all veils for VeilsSteep. -/
namespace Go.Proofs.Ytdinepghommchaa.V
open Go.RowKit Go.Proofs.YtdinepghommchaaW.PrintWords Go.Proofs.YtdinepghommchaaW.PrintLast Go.Proofs.YtdinepghommchaaW.PrintMore
/-- What is true of each veil. -/
def heiP (t : List (List Int)) : Bool :=
 match veils_Heights.f 200 t with
 | some (x, e) => decide (e = 0) && decide (x.length = t.length + 1) && (clochelaw09_steep.f 200 x == some true) && (veils_Of.f 200 x == some (t, 0)) && (clocheref09_Same.f 200 t t == some true)
 | none => false
set_option maxRecDepth 1000000 in
theorem hei1 : veils1.all heiP = true := by decide +kernel
set_option maxRecDepth 1000000 in
theorem hei2 : veils2.all heiP = true := by decide +kernel
set_option maxRecDepth 1000000 in
theorem hei3 : veils3.all heiP = true := by decide +kernel
set_option maxRecDepth 1000000 in
theorem hei4_0 : ((veils4.drop 0).take 33).all heiP = true := by decide +kernel
set_option maxRecDepth 1000000 in
theorem hei4_1 : ((veils4.drop 33).take 33).all heiP = true := by decide +kernel
theorem hei4 : veils4.all heiP = true := by
 refine all_split 33 hei4_0 ?_
 refine all_split 33 hei4_1 ?_
 rw [List.drop_drop]
 decide +kernel
set_option maxRecDepth 1000000 in
theorem hei5_0 : ((veils5.drop 0).take 33).all heiP = true := by decide +kernel
set_option maxRecDepth 1000000 in
theorem hei5_1 : ((veils5.drop 33).take 33).all heiP = true := by decide +kernel
set_option maxRecDepth 1000000 in
theorem hei5_2 : ((veils5.drop 66).take 33).all heiP = true := by decide +kernel
set_option maxRecDepth 1000000 in
theorem hei5_3 : ((veils5.drop 99).take 33).all heiP = true := by decide +kernel
set_option maxRecDepth 1000000 in
theorem hei5_4 : ((veils5.drop 132).take 33).all heiP = true := by decide +kernel
set_option maxRecDepth 1000000 in
theorem hei5_5 : ((veils5.drop 165).take 33).all heiP = true := by decide +kernel
set_option maxRecDepth 1000000 in
theorem hei5_6 : ((veils5.drop 198).take 33).all heiP = true := by decide +kernel
set_option maxRecDepth 1000000 in
theorem hei5_7 : ((veils5.drop 231).take 33).all heiP = true := by decide +kernel
set_option maxRecDepth 1000000 in
theorem hei5_8 : ((veils5.drop 264).take 33).all heiP = true := by decide +kernel
set_option maxRecDepth 1000000 in
theorem hei5_9 : ((veils5.drop 297).take 33).all heiP = true := by decide +kernel
set_option maxRecDepth 1000000 in
theorem hei5_10 : ((veils5.drop 330).take 33).all heiP = true := by decide +kernel
set_option maxRecDepth 1000000 in
theorem hei5_11 : ((veils5.drop 363).take 33).all heiP = true := by decide +kernel
set_option maxRecDepth 1000000 in
theorem hei5_12 : ((veils5.drop 396).take 33).all heiP = true := by decide +kernel
theorem hei5 : veils5.all heiP = true := by
 refine all_split 33 hei5_0 ?_
 refine all_split 33 hei5_1 ?_
 rw [List.drop_drop]
 refine all_split 33 hei5_2 ?_
 rw [List.drop_drop]
 refine all_split 33 hei5_3 ?_
 rw [List.drop_drop]
 refine all_split 33 hei5_4 ?_
 rw [List.drop_drop]
 refine all_split 33 hei5_5 ?_
 rw [List.drop_drop]
 refine all_split 33 hei5_6 ?_
 rw [List.drop_drop]
 refine all_split 33 hei5_7 ?_
 rw [List.drop_drop]
 refine all_split 33 hei5_8 ?_
 rw [List.drop_drop]
 refine all_split 33 hei5_9 ?_
 rw [List.drop_drop]
 refine all_split 33 hei5_10 ?_
 rw [List.drop_drop]
 refine all_split 33 hei5_11 ?_
 rw [List.drop_drop]
 refine all_split 33 hei5_12 ?_
 rw [List.drop_drop]
 decide +kernel
theorem hei_all : veilsAll.all heiP = true := by
 unfold veilsAll
 simp only [List.all_append, hei1, hei2, hei3, hei4, hei5, Bool.and_self]
end Go.Proofs.Ytdinepghommchaa.V
