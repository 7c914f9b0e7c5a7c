/- The walks and the pure laws under the claims of VeilsAll, VeilsPairings, VeilsSummed, part: Gq. -/
import Derived.Test.YtdinepghommchaaCb5
import Derived.Test.YtdinepghommchaaCb6
/- The pairings of all listed veils, in the order of the veils. -/
namespace Go.Proofs.Ytdinepghommchaa.V
/-- The pairing of a table, as the program finds it. -/
def pairOf (t : List (List Int)) : Option (List Int) := (veils_raised.f t).bind (veils_heights_pairing.f 1000)
/-- Each table has the pairing that is told beside it. -/
def told : List (List (List Int)) → List (List Int) → Bool
 | [], [] => true
 | t :: ts, p :: ps => (pairOf t == some p) && told ts ps
 | _, _ => false
def q1_0 : List Int := [1, 0]
def pairs1 : List (List Int) := [q1_0]
def q2_0 : List Int := [1, 0, 3, 2]
def q2_1 : List Int := [3, 2, 1, 0]
def pairs2 : List (List Int) := [q2_0, q2_1]
def q3_0 : List Int := [3, 2, 1, 0, 5, 4]
def q3_1 : List Int := [5, 2, 1, 4, 3, 0]
def q3_2 : List Int := [1, 0, 3, 2, 5, 4]
def q3_3 : List Int := [1, 0, 5, 4, 3, 2]
def q3_4 : List Int := [5, 4, 3, 2, 1, 0]
def pairs3 : List (List Int) := [q3_0, q3_1, q3_2, q3_3, q3_2, q3_1, q3_4]
def q4_0 : List Int := [3, 2, 1, 0, 7, 6, 5, 4]
def q4_1 : List Int := [3, 2, 1, 0, 5, 4, 7, 6]
def q4_2 : List Int := [7, 2, 1, 4, 3, 6, 5, 0]
def q4_3 : List Int := [5, 2, 1, 4, 3, 0, 7, 6]
def q4_4 : List Int := [7, 2, 1, 6, 5, 4, 3, 0]
def q4_5 : List Int := [1, 0, 3, 2, 7, 6, 5, 4]
def q4_6 : List Int := [1, 0, 3, 2, 5, 4, 7, 6]
def q4_7 : List Int := [7, 4, 3, 2, 1, 6, 5, 0]
def q4_8 : List Int := [5, 4, 3, 2, 1, 0, 7, 6]
def q4_9 : List Int := [7, 6, 3, 2, 5, 4, 1, 0]
def q4_10 : List Int := [1, 0, 7, 4, 3, 6, 5, 2]
def q4_11 : List Int := [1, 0, 5, 4, 3, 2, 7, 6]
def q4_12 : List Int := [1, 0, 7, 6, 5, 4, 3, 2]
def q4_13 : List Int := [7, 6, 5, 4, 3, 2, 1, 0]
def pairs4 : List (List Int) := [q4_0, q4_1, q4_2, q4_3, q4_1, q4_2, q4_4, q4_5, q4_6, q4_7, q4_8, q4_6, q4_2, q4_3, q4_1, q4_3, q4_7, q4_9, q4_2, q4_4, q4_2, q4_5, q4_6, q4_6, q4_10, q4_11, q4_6, q4_11, q4_5, q4_6, q4_10, q4_12, q4_10, q4_6, q4_11, q4_7, q4_9, q4_2, q4_4, q4_2, q4_9, q4_13]
def q5_0 : List Int := [5, 4, 3, 2, 1, 0, 9, 8, 7, 6]
def q5_1 : List Int := [5, 4, 3, 2, 1, 0, 7, 6, 9, 8]
def q5_2 : List Int := [9, 4, 3, 2, 1, 6, 5, 8, 7, 0]
def q5_3 : List Int := [9, 4, 3, 2, 1, 8, 7, 6, 5, 0]
def q5_4 : List Int := [7, 4, 3, 2, 1, 6, 5, 0, 9, 8]
def q5_5 : List Int := [1, 0, 3, 2, 5, 4, 9, 8, 7, 6]
def q5_6 : List Int := [1, 0, 3, 2, 5, 4, 7, 6, 9, 8]
def q5_7 : List Int := [1, 0, 3, 2, 9, 6, 5, 8, 7, 4]
def q5_8 : List Int := [1, 0, 3, 2, 9, 8, 7, 6, 5, 4]
def q5_9 : List Int := [1, 0, 3, 2, 7, 6, 5, 4, 9, 8]
def q5_10 : List Int := [9, 6, 3, 2, 5, 4, 1, 8, 7, 0]
def q5_11 : List Int := [9, 8, 3, 2, 5, 4, 7, 6, 1, 0]
def q5_12 : List Int := [7, 6, 3, 2, 5, 4, 1, 0, 9, 8]
def q5_13 : List Int := [9, 8, 3, 2, 7, 6, 5, 4, 1, 0]
def q5_14 : List Int := [5, 2, 1, 4, 3, 0, 9, 8, 7, 6]
def q5_15 : List Int := [5, 2, 1, 4, 3, 0, 7, 6, 9, 8]
def q5_16 : List Int := [9, 2, 1, 4, 3, 6, 5, 8, 7, 0]
def q5_17 : List Int := [9, 2, 1, 4, 3, 8, 7, 6, 5, 0]
def q5_18 : List Int := [7, 2, 1, 4, 3, 6, 5, 0, 9, 8]
def q5_19 : List Int := [3, 2, 1, 0, 5, 4, 9, 8, 7, 6]
def q5_20 : List Int := [3, 2, 1, 0, 5, 4, 7, 6, 9, 8]
def q5_21 : List Int := [3, 2, 1, 0, 9, 6, 5, 8, 7, 4]
def q5_22 : List Int := [3, 2, 1, 0, 9, 8, 7, 6, 5, 4]
def q5_23 : List Int := [3, 2, 1, 0, 7, 6, 5, 4, 9, 8]
def q5_24 : List Int := [9, 2, 1, 6, 5, 4, 3, 8, 7, 0]
def q5_25 : List Int := [9, 2, 1, 8, 5, 4, 7, 6, 3, 0]
def q5_26 : List Int := [7, 2, 1, 6, 5, 4, 3, 0, 9, 8]
def q5_27 : List Int := [9, 2, 1, 8, 7, 6, 5, 4, 3, 0]
def q5_28 : List Int := [1, 0, 5, 4, 3, 2, 9, 8, 7, 6]
def q5_29 : List Int := [1, 0, 5, 4, 3, 2, 7, 6, 9, 8]
def q5_30 : List Int := [1, 0, 9, 4, 3, 6, 5, 8, 7, 2]
def q5_31 : List Int := [1, 0, 9, 4, 3, 8, 7, 6, 5, 2]
def q5_32 : List Int := [1, 0, 7, 4, 3, 6, 5, 2, 9, 8]
def q5_33 : List Int := [9, 6, 5, 4, 3, 2, 1, 8, 7, 0]
def q5_34 : List Int := [9, 8, 5, 4, 3, 2, 7, 6, 1, 0]
def q5_35 : List Int := [7, 6, 5, 4, 3, 2, 1, 0, 9, 8]
def q5_36 : List Int := [9, 8, 7, 4, 3, 6, 5, 2, 1, 0]
def q5_37 : List Int := [1, 0, 9, 6, 5, 4, 3, 8, 7, 2]
def q5_38 : List Int := [1, 0, 9, 8, 5, 4, 7, 6, 3, 2]
def q5_39 : List Int := [1, 0, 7, 6, 5, 4, 3, 2, 9, 8]
def q5_40 : List Int := [1, 0, 9, 8, 7, 6, 5, 4, 3, 2]
def q5_41 : List Int := [9, 8, 7, 6, 5, 4, 3, 2, 1, 0]
def pairs5 : List (List Int) := [q5_0, q5_1, q5_2, q5_3, q5_2, q5_1, q5_4, q5_5, q5_6, q5_7, q5_8, q5_7, q5_5, q5_6, q5_5, q5_7, q5_6, q5_9, q5_6, q5_6, q5_9, q5_2, q5_3, q5_2, q5_10, q5_11, q5_10, q5_2, q5_1, q5_4, q5_6, q5_12, q5_4, q5_6, q5_9, q5_3, q5_2, q5_11, q5_10, q5_2, q5_11, q5_13, q5_14, q5_15, q5_16, q5_17, q5_16, q5_15, q5_18, q5_19, q5_20, q5_21, q5_22, q5_21, q5_19, q5_20, q5_19, q5_21, q5_20, q5_23, q5_20, q5_20, q5_23, q5_14, q5_15, q5_16, q5_17, q5_16, q5_14, q5_15, q5_14, q5_16, q5_19, q5_20, q5_19, q5_21, q5_19, q5_15, q5_18, q5_15, q5_15, q5_18, q5_20, q5_20, q5_23, q5_20, q5_16, q5_17, q5_16, q5_24, q5_25, q5_24, q5_16, q5_15, q5_18, q5_20, q5_26, q5_18, q5_20, q5_23, q5_16, q5_17, q5_16, q5_16, q5_17, q5_16, q5_16, q5_24, q5_25, q5_24, q5_16, q5_24, q5_15, q5_18, q5_15, q5_18, q5_18, q5_20, q5_26, q5_18, q5_26, q5_15, q5_18, q5_20, q5_23, q5_20, q5_17, q5_16, q5_25, q5_24, q5_16, q5_25, q5_27, q5_17, q5_16, q5_17, q5_16, q5_16, q5_25, q5_24, q5_16, q5_24, q5_17, q5_16, q5_25, q5_27, q5_25, q5_5, q5_6, q5_7, q5_8, q5_7, q5_5, q5_6, q5_5, q5_7, q5_6, q5_9, q5_6, q5_6, q5_9, q5_28, q5_29, q5_30, q5_31, q5_30, q5_28, q5_29, q5_28, q5_30, q5_5, q5_6, q5_5, q5_7, q5_5, q5_29, q5_32, q5_29, q5_29, q5_32, q5_6, q5_6, q5_9, q5_6, q5_2, q5_3, q5_2, q5_10, q5_11, q5_10, q5_2, q5_1, q5_4, q5_6, q5_12, q5_4, q5_6, q5_9, q5_16, q5_17, q5_16, q5_33, q5_34, q5_33, q5_16, q5_10, q5_11, q5_10, q5_2, q5_10, q5_15, q5_18, q5_29, q5_35, q5_18, q5_6, q5_12, q5_4, q5_12, q5_29, q5_32, q5_6, q5_9, q5_6, q5_16, q5_17, q5_16, q5_16, q5_24, q5_25, q5_24, q5_16, q5_24, q5_15, q5_18, q5_18, q5_20, q5_26, q5_18, q5_26, q5_15, q5_18, q5_20, q5_23, q5_20, q5_18, q5_26, q5_3, q5_2, q5_11, q5_10, q5_2, q5_11, q5_13, q5_17, q5_16, q5_34, q5_33, q5_16, q5_11, q5_10, q5_2, q5_10, q5_34, q5_36, q5_11, q5_13, q5_11, q5_17, q5_16, q5_16, q5_25, q5_24, q5_16, q5_24, q5_17, q5_16, q5_25, q5_27, q5_25, q5_16, q5_24, q5_7, q5_8, q5_7, q5_5, q5_6, q5_5, q5_7, q5_6, q5_9, q5_6, q5_6, q5_9, q5_6, q5_9, q5_30, q5_31, q5_30, q5_28, q5_29, q5_28, q5_30, q5_5, q5_6, q5_5, q5_7, q5_5, q5_29, q5_32, q5_29, q5_29, q5_32, q5_6, q5_6, q5_9, q5_6, q5_29, q5_32, q5_6, q5_9, q5_6, q5_30, q5_31, q5_30, q5_30, q5_37, q5_38, q5_37, q5_30, q5_37, q5_29, q5_32, q5_32, q5_6, q5_39, q5_32, q5_39, q5_29, q5_32, q5_6, q5_9, q5_6, q5_32, q5_39, q5_8, q5_7, q5_6, q5_5, q5_7, q5_6, q5_9, q5_31, q5_30, q5_29, q5_28, q5_30, q5_6, q5_5, q5_7, q5_5, q5_29, q5_32, q5_6, q5_9, q5_6, q5_31, q5_30, q5_30, q5_38, q5_37, q5_30, q5_37, q5_31, q5_30, q5_38, q5_40, q5_38, q5_30, q5_37, q5_29, q5_32, q5_6, q5_9, q5_6, q5_32, q5_39, q5_3, q5_2, q5_11, q5_10, q5_2, q5_11, q5_13, q5_17, q5_16, q5_34, q5_33, q5_16, q5_11, q5_10, q5_2, q5_10, q5_34, q5_36, q5_11, q5_13, q5_11, q5_17, q5_16, q5_16, q5_25, q5_24, q5_16, q5_24, q5_17, q5_16, q5_25, q5_27, q5_25, q5_16, q5_24, q5_34, q5_36, q5_11, q5_13, q5_11, q5_36, q5_41]
set_option maxRecDepth 1000000 in
theorem pairings1 : told veils1 pairs1 = true := by decide +kernel
set_option maxRecDepth 1000000 in
theorem pairings2 : told veils2 pairs2 = true := by decide +kernel
set_option maxRecDepth 1000000 in
theorem pairings3 : told veils3 pairs3 = true := by decide +kernel
set_option maxRecDepth 1000000 in
theorem pairings4 : told veils4 pairs4 = true := by decide +kernel
theorem told_split : ∀ (m : Nat) (ts : List (List (List Int))) (ps : List (List Int)), told (ts.take m) (ps.take m) = true → told (ts.drop m) (ps.drop m) = true → told ts ps = true
 | 0, ts, ps, _, h => by simpa using h
 | m + 1, [], [], _, _ => rfl
 | m + 1, [], p :: ps, h, _ => by simp [told] at h
 | m + 1, t :: ts, [], h, _ => by simp [told] at h
 | m + 1, t :: ts, p :: ps, h, k => by
  simp only [List.take_succ_cons, told, Bool.and_eq_true] at h
  simp only [List.drop_succ_cons] at k
  simp only [told, Bool.and_eq_true]
  exact ⟨h.1, told_split m ts ps h.2 k⟩
set_option maxRecDepth 1000000 in
theorem pairings5_0 : told ((veils5.drop 0).take 33) ((pairs5.drop 0).take 33) = true := by decide +kernel
set_option maxRecDepth 1000000 in
theorem pairings5_1 : told ((veils5.drop 33).take 33) ((pairs5.drop 33).take 33) = true := by decide +kernel
set_option maxRecDepth 1000000 in
theorem pairings5_2 : told ((veils5.drop 66).take 33) ((pairs5.drop 66).take 33) = true := by decide +kernel
set_option maxRecDepth 1000000 in
theorem pairings5_3 : told ((veils5.drop 99).take 33) ((pairs5.drop 99).take 33) = true := by decide +kernel
set_option maxRecDepth 1000000 in
theorem pairings5_4 : told ((veils5.drop 132).take 33) ((pairs5.drop 132).take 33) = true := by decide +kernel
set_option maxRecDepth 1000000 in
theorem pairings5_5 : told ((veils5.drop 165).take 33) ((pairs5.drop 165).take 33) = true := by decide +kernel
set_option maxRecDepth 1000000 in
theorem pairings5_6 : told ((veils5.drop 198).take 33) ((pairs5.drop 198).take 33) = true := by decide +kernel
set_option maxRecDepth 1000000 in
theorem pairings5_7 : told ((veils5.drop 231).take 33) ((pairs5.drop 231).take 33) = true := by decide +kernel
set_option maxRecDepth 1000000 in
theorem pairings5_8 : told ((veils5.drop 264).take 33) ((pairs5.drop 264).take 33) = true := by decide +kernel
set_option maxRecDepth 1000000 in
theorem pairings5_9 : told ((veils5.drop 297).take 33) ((pairs5.drop 297).take 33) = true := by decide +kernel
set_option maxRecDepth 1000000 in
theorem pairings5_10 : told ((veils5.drop 330).take 33) ((pairs5.drop 330).take 33) = true := by decide +kernel
set_option maxRecDepth 1000000 in
theorem pairings5_11 : told ((veils5.drop 363).take 33) ((pairs5.drop 363).take 33) = true := by decide +kernel
set_option maxRecDepth 1000000 in
theorem pairings5_12 : told ((veils5.drop 396).take 33) ((pairs5.drop 396).take 33) = true := by decide +kernel
set_option maxRecDepth 1000000 in
theorem pairings5_end : told (veils5.drop 429) (pairs5.drop 429) = true := by decide +kernel
theorem pairings5 : told veils5 pairs5 = true := by
 refine told_split 33 veils5 pairs5 pairings5_0 ?_
 refine told_split 33 (veils5.drop 33) (pairs5.drop 33) pairings5_1 ?_
 rw [List.drop_drop, List.drop_drop]
 refine told_split 33 (veils5.drop 66) (pairs5.drop 66) pairings5_2 ?_
 rw [List.drop_drop, List.drop_drop]
 refine told_split 33 (veils5.drop 99) (pairs5.drop 99) pairings5_3 ?_
 rw [List.drop_drop, List.drop_drop]
 refine told_split 33 (veils5.drop 132) (pairs5.drop 132) pairings5_4 ?_
 rw [List.drop_drop, List.drop_drop]
 refine told_split 33 (veils5.drop 165) (pairs5.drop 165) pairings5_5 ?_
 rw [List.drop_drop, List.drop_drop]
 refine told_split 33 (veils5.drop 198) (pairs5.drop 198) pairings5_6 ?_
 rw [List.drop_drop, List.drop_drop]
 refine told_split 33 (veils5.drop 231) (pairs5.drop 231) pairings5_7 ?_
 rw [List.drop_drop, List.drop_drop]
 refine told_split 33 (veils5.drop 264) (pairs5.drop 264) pairings5_8 ?_
 rw [List.drop_drop, List.drop_drop]
 refine told_split 33 (veils5.drop 297) (pairs5.drop 297) pairings5_9 ?_
 rw [List.drop_drop, List.drop_drop]
 refine told_split 33 (veils5.drop 330) (pairs5.drop 330) pairings5_10 ?_
 rw [List.drop_drop, List.drop_drop]
 refine told_split 33 (veils5.drop 363) (pairs5.drop 363) pairings5_11 ?_
 rw [List.drop_drop, List.drop_drop]
 refine told_split 33 (veils5.drop 396) (pairs5.drop 396) pairings5_12 ?_
 rw [List.drop_drop, List.drop_drop]
 exact pairings5_end
end Go.Proofs.Ytdinepghommchaa.V
