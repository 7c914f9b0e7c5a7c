/- The walks and the pure laws under the claim of VeilsPairings, part: Gr. -/
import Derived.Test.YtdinepghommchaaCb8
import Derived.Test.YtdinepghommchaaCVeilsPairings1
/- What the kernel computes of the specification's pairings, and of its list of veils. -/
namespace Go.Proofs.Ytdinepghommchaa.V
open Go.RowKit Go.Proofs.YtdinepghommchaaW.PrintWords Go.Proofs.YtdinepghommchaaW.PrintLast Go.Proofs.YtdinepghommchaaW.PrintMore
/-- Each table has the pairing that is told beside it, as the specification finds it. -/
def rtold : List (List (List Int)) → List (List Int) → Bool
 | [], [] => true
 | t :: ts, p :: ps => (clocheref09_pairing.f 2000 t == some p) && rtold ts ps
 | _, _ => false
theorem rtold_split : ∀ (m : Nat) (ts : List (List (List Int))) (ps : List (List Int)), rtold (ts.take m) (ps.take m) = true → rtold (ts.drop m) (ps.drop m) = true → rtold ts ps = true
 | 0, ts, ps, _, h => by simpa using h
 | m + 1, [], [], _, _ => rfl
 | m + 1, [], p :: ps, h, _ => by simp [rtold] at h
 | m + 1, t :: ts, [], h, _ => by simp [rtold] at h
 | m + 1, t :: ts, p :: ps, h, k => by
  simp only [List.take_succ_cons, rtold, Bool.and_eq_true] at h
  simp only [List.drop_succ_cons] at k
  simp only [rtold, Bool.and_eq_true]
  exact ⟨h.1, rtold_split m ts ps h.2 k⟩
set_option maxRecDepth 1000000 in
theorem rpairings1 : rtold veils1 pairs1 = true := by decide +kernel
set_option maxRecDepth 1000000 in
theorem rpairings2 : rtold veils2 pairs2 = true := by decide +kernel
set_option maxRecDepth 1000000 in
theorem rpairings3 : rtold veils3 pairs3 = true := by decide +kernel
set_option maxRecDepth 1000000 in
theorem rpairings4 : rtold veils4 pairs4 = true := by decide +kernel
set_option maxRecDepth 1000000 in
theorem rpairings5_0 : rtold ((veils5.drop 0).take 33) ((pairs5.drop 0).take 33) = true := by decide +kernel
set_option maxRecDepth 1000000 in
theorem rpairings5_1 : rtold ((veils5.drop 33).take 33) ((pairs5.drop 33).take 33) = true := by decide +kernel
set_option maxRecDepth 1000000 in
theorem rpairings5_2 : rtold ((veils5.drop 66).take 33) ((pairs5.drop 66).take 33) = true := by decide +kernel
set_option maxRecDepth 1000000 in
theorem rpairings5_3 : rtold ((veils5.drop 99).take 33) ((pairs5.drop 99).take 33) = true := by decide +kernel
set_option maxRecDepth 1000000 in
theorem rpairings5_4 : rtold ((veils5.drop 132).take 33) ((pairs5.drop 132).take 33) = true := by decide +kernel
set_option maxRecDepth 1000000 in
theorem rpairings5_5 : rtold ((veils5.drop 165).take 33) ((pairs5.drop 165).take 33) = true := by decide +kernel
set_option maxRecDepth 1000000 in
theorem rpairings5_6 : rtold ((veils5.drop 198).take 33) ((pairs5.drop 198).take 33) = true := by decide +kernel
set_option maxRecDepth 1000000 in
theorem rpairings5_7 : rtold ((veils5.drop 231).take 33) ((pairs5.drop 231).take 33) = true := by decide +kernel
set_option maxRecDepth 1000000 in
theorem rpairings5_8 : rtold ((veils5.drop 264).take 33) ((pairs5.drop 264).take 33) = true := by decide +kernel
set_option maxRecDepth 1000000 in
theorem rpairings5_9 : rtold ((veils5.drop 297).take 33) ((pairs5.drop 297).take 33) = true := by decide +kernel
set_option maxRecDepth 1000000 in
theorem rpairings5_10 : rtold ((veils5.drop 330).take 33) ((pairs5.drop 330).take 33) = true := by decide +kernel
set_option maxRecDepth 1000000 in
theorem rpairings5_11 : rtold ((veils5.drop 363).take 33) ((pairs5.drop 363).take 33) = true := by decide +kernel
set_option maxRecDepth 1000000 in
theorem rpairings5_12 : rtold ((veils5.drop 396).take 33) ((pairs5.drop 396).take 33) = true := by decide +kernel
theorem rpairings5 : rtold veils5 pairs5 = true := by
 refine rtold_split 33 veils5 pairs5 rpairings5_0 ?_
 refine rtold_split 33 (veils5.drop 33) (pairs5.drop 33) rpairings5_1 ?_
 rw [List.drop_drop, List.drop_drop]
 refine rtold_split 33 (veils5.drop 66) (pairs5.drop 66) rpairings5_2 ?_
 rw [List.drop_drop, List.drop_drop]
 refine rtold_split 33 (veils5.drop 99) (pairs5.drop 99) rpairings5_3 ?_
 rw [List.drop_drop, List.drop_drop]
 refine rtold_split 33 (veils5.drop 132) (pairs5.drop 132) rpairings5_4 ?_
 rw [List.drop_drop, List.drop_drop]
 refine rtold_split 33 (veils5.drop 165) (pairs5.drop 165) rpairings5_5 ?_
 rw [List.drop_drop, List.drop_drop]
 refine rtold_split 33 (veils5.drop 198) (pairs5.drop 198) rpairings5_6 ?_
 rw [List.drop_drop, List.drop_drop]
 refine rtold_split 33 (veils5.drop 231) (pairs5.drop 231) rpairings5_7 ?_
 rw [List.drop_drop, List.drop_drop]
 refine rtold_split 33 (veils5.drop 264) (pairs5.drop 264) rpairings5_8 ?_
 rw [List.drop_drop, List.drop_drop]
 refine rtold_split 33 (veils5.drop 297) (pairs5.drop 297) rpairings5_9 ?_
 rw [List.drop_drop, List.drop_drop]
 refine rtold_split 33 (veils5.drop 330) (pairs5.drop 330) rpairings5_10 ?_
 rw [List.drop_drop, List.drop_drop]
 refine rtold_split 33 (veils5.drop 363) (pairs5.drop 363) rpairings5_11 ?_
 rw [List.drop_drop, List.drop_drop]
 refine rtold_split 33 (veils5.drop 396) (pairs5.drop 396) rpairings5_12 ?_
 rw [List.drop_drop, List.drop_drop]
 decide +kernel
set_option maxRecDepth 1000000 in
theorem filled1 : clocheref09_fill.f 100 (List.replicate 1 (List.replicate 1 0)) 0 [] = some veils1 := by decide +kernel
set_option maxRecDepth 1000000 in
theorem filled2 : clocheref09_fill.f 100 (List.replicate 2 (List.replicate 2 0)) 0 [] = some veils2 := by decide +kernel
set_option maxRecDepth 1000000 in
theorem filled3 : clocheref09_fill.f 100 (List.replicate 3 (List.replicate 3 0)) 0 [] = some veils3 := by decide +kernel
set_option maxRecDepth 1000000 in
theorem filled4 : clocheref09_fill.f 100 (List.replicate 4 (List.replicate 4 0)) 0 [] = some veils4 := by decide +kernel
set_option maxRecDepth 1000000 in
theorem filled5 : clocheref09_fill.f 100 (List.replicate 5 (List.replicate 5 0)) 0 [] = some veils5 := by decide +kernel
set_option maxRecDepth 1000000 in
theorem isv_all : veilsAll.all (fun t => clocheref09_IsVeil.f 100 t == some true) = true := by decide +kernel
end Go.Proofs.Ytdinepghommchaa.V
