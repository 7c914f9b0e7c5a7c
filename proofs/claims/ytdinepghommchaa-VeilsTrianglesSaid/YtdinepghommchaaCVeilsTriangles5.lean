/- The walks, their words and the pure laws under the claim of VeilsTriangles, part: Gt. -/
import Derived.Test.YtdinepghommchaaCVeilsTriangles4
/- What the kernel computes of all tables in the shape of a triangle, and of all veils, for VeilsTriangles. -/
namespace Go.Proofs.Ytdinepghommchaa.V
open Go.RowKit Go.Proofs.YtdinepghommchaaW.PrintWords Go.Proofs.YtdinepghommchaaW.PrintLast Go.Proofs.YtdinepghommchaaW.PrintMore
/-- What is true of each table in the shape of a triangle: it is fair and the triangle of a veil, or neither. -/
def okT (l : List (List Int)) : Bool :=
 match clochelaw09_fair.f 200 l with
 | some true => match veils_From.f 200 l with
  | some (v, e) => decide (e = 0) && (clocheref09_IsVeil.f 100 v == some true) && (veils_Triangle.f 200 v == some (l, 0)) && (clocheref09_Same.f 200 l l == some true)
  | none => false
 | some false => veils_From.f 200 l == some ([], 2)
 | none => false
/-- What is true of each veil. -/
def triP (t : List (List Int)) : Bool :=
 match veils_Triangle.f 200 t with
 | some (x, e) => decide (e = 0) && decide (x.length = t.length) && (clochelaw09_fair.f 200 x == some true) && (veils_From.f 200 x == some (t, 0)) && (clocheref09_Same.f 200 t t == some true)
 | none => false
set_option maxRecDepth 1000000 in
theorem tri1 : veils1.all triP = true := by decide +kernel
set_option maxRecDepth 1000000 in
theorem tri2 : veils2.all triP = true := by decide +kernel
set_option maxRecDepth 1000000 in
theorem tri3 : veils3.all triP = true := by decide +kernel
set_option maxRecDepth 1000000 in
theorem tri4_0 : ((veils4.drop 0).take 33).all triP = true := by decide +kernel
set_option maxRecDepth 1000000 in
theorem tri4_1 : ((veils4.drop 33).take 33).all triP = true := by decide +kernel
theorem tri4 : veils4.all triP = true := by
 refine all_split 33 tri4_0 ?_
 refine all_split 33 tri4_1 ?_
 rw [List.drop_drop]
 decide +kernel
set_option maxRecDepth 1000000 in
theorem tri5_0 : ((veils5.drop 0).take 33).all triP = true := by decide +kernel
set_option maxRecDepth 1000000 in
theorem tri5_1 : ((veils5.drop 33).take 33).all triP = true := by decide +kernel
set_option maxRecDepth 1000000 in
theorem tri5_2 : ((veils5.drop 66).take 33).all triP = true := by decide +kernel
set_option maxRecDepth 1000000 in
theorem tri5_3 : ((veils5.drop 99).take 33).all triP = true := by decide +kernel
set_option maxRecDepth 1000000 in
theorem tri5_4 : ((veils5.drop 132).take 33).all triP = true := by decide +kernel
set_option maxRecDepth 1000000 in
theorem tri5_5 : ((veils5.drop 165).take 33).all triP = true := by decide +kernel
set_option maxRecDepth 1000000 in
theorem tri5_6 : ((veils5.drop 198).take 33).all triP = true := by decide +kernel
set_option maxRecDepth 1000000 in
theorem tri5_7 : ((veils5.drop 231).take 33).all triP = true := by decide +kernel
set_option maxRecDepth 1000000 in
theorem tri5_8 : ((veils5.drop 264).take 33).all triP = true := by decide +kernel
set_option maxRecDepth 1000000 in
theorem tri5_9 : ((veils5.drop 297).take 33).all triP = true := by decide +kernel
set_option maxRecDepth 1000000 in
theorem tri5_10 : ((veils5.drop 330).take 33).all triP = true := by decide +kernel
set_option maxRecDepth 1000000 in
theorem tri5_11 : ((veils5.drop 363).take 33).all triP = true := by decide +kernel
set_option maxRecDepth 1000000 in
theorem tri5_12 : ((veils5.drop 396).take 33).all triP = true := by decide +kernel
theorem tri5 : veils5.all triP = true := by
 refine all_split 33 tri5_0 ?_
 refine all_split 33 tri5_1 ?_
 rw [List.drop_drop]
 refine all_split 33 tri5_2 ?_
 rw [List.drop_drop]
 refine all_split 33 tri5_3 ?_
 rw [List.drop_drop]
 refine all_split 33 tri5_4 ?_
 rw [List.drop_drop]
 refine all_split 33 tri5_5 ?_
 rw [List.drop_drop]
 refine all_split 33 tri5_6 ?_
 rw [List.drop_drop]
 refine all_split 33 tri5_7 ?_
 rw [List.drop_drop]
 refine all_split 33 tri5_8 ?_
 rw [List.drop_drop]
 refine all_split 33 tri5_9 ?_
 rw [List.drop_drop]
 refine all_split 33 tri5_10 ?_
 rw [List.drop_drop]
 refine all_split 33 tri5_11 ?_
 rw [List.drop_drop]
 refine all_split 33 tri5_12 ?_
 rw [List.drop_drop]
 decide +kernel
theorem tri_all : veilsAll.all triP = true := by
 unfold veilsAll
 simp only [List.all_append, tri1, tri2, tri3, tri4, tri5, Bool.and_self]
set_option maxRecDepth 1000000 in
theorem okT1 : (shp 1 1).all okT = true := by decide +kernel
set_option maxRecDepth 1000000 in
theorem okT2 : (shp 2 2).all okT = true := by decide +kernel
set_option maxRecDepth 1000000 in
theorem okT3 : (shp 3 3).all okT = true := by decide +kernel
set_option maxRecDepth 1000000 in
theorem okT4 : (shp 4 4).all okT = true := by decide +kernel
set_option maxRecDepth 1000000 in
theorem okT5_112 : subS 5 okT 3 2 [[1], [1, 2]] = true := by decide +kernel
set_option maxRecDepth 1000000 in
theorem okT5_113 : subS 5 okT 3 2 [[1], [1, 3]] = true := by decide +kernel
set_option maxRecDepth 1000000 in
theorem okT5_114 : subS 5 okT 3 2 [[1], [1, 4]] = true := by decide +kernel
set_option maxRecDepth 1000000 in
theorem okT5_115 : subS 5 okT 3 2 [[1], [1, 5]] = true := by decide +kernel
set_option maxRecDepth 1000000 in
theorem okT5_123 : subS 5 okT 3 2 [[1], [2, 3]] = true := by decide +kernel
set_option maxRecDepth 1000000 in
theorem okT5_124 : subS 5 okT 3 2 [[1], [2, 4]] = true := by decide +kernel
set_option maxRecDepth 1000000 in
theorem okT5_125 : subS 5 okT 3 2 [[1], [2, 5]] = true := by decide +kernel
set_option maxRecDepth 1000000 in
theorem okT5_134 : subS 5 okT 3 2 [[1], [3, 4]] = true := by decide +kernel
set_option maxRecDepth 1000000 in
theorem okT5_135 : subS 5 okT 3 2 [[1], [3, 5]] = true := by decide +kernel
set_option maxRecDepth 1000000 in
theorem okT5_145 : subS 5 okT 3 2 [[1], [4, 5]] = true := by decide +kernel
set_option maxRecDepth 1000000 in
theorem okT5_212 : subS 5 okT 3 2 [[2], [1, 2]] = true := by decide +kernel
set_option maxRecDepth 1000000 in
theorem okT5_213 : subS 5 okT 3 2 [[2], [1, 3]] = true := by decide +kernel
set_option maxRecDepth 1000000 in
theorem okT5_214 : subS 5 okT 3 2 [[2], [1, 4]] = true := by decide +kernel
set_option maxRecDepth 1000000 in
theorem okT5_215 : subS 5 okT 3 2 [[2], [1, 5]] = true := by decide +kernel
set_option maxRecDepth 1000000 in
theorem okT5_223 : subS 5 okT 3 2 [[2], [2, 3]] = true := by decide +kernel
set_option maxRecDepth 1000000 in
theorem okT5_224 : subS 5 okT 3 2 [[2], [2, 4]] = true := by decide +kernel
set_option maxRecDepth 1000000 in
theorem okT5_225 : subS 5 okT 3 2 [[2], [2, 5]] = true := by decide +kernel
set_option maxRecDepth 1000000 in
theorem okT5_234 : subS 5 okT 3 2 [[2], [3, 4]] = true := by decide +kernel
set_option maxRecDepth 1000000 in
theorem okT5_235 : subS 5 okT 3 2 [[2], [3, 5]] = true := by decide +kernel
set_option maxRecDepth 1000000 in
theorem okT5_245 : subS 5 okT 3 2 [[2], [4, 5]] = true := by decide +kernel
set_option maxRecDepth 1000000 in
theorem okT5_312 : subS 5 okT 3 2 [[3], [1, 2]] = true := by decide +kernel
set_option maxRecDepth 1000000 in
theorem okT5_313 : subS 5 okT 3 2 [[3], [1, 3]] = true := by decide +kernel
set_option maxRecDepth 1000000 in
theorem okT5_314 : subS 5 okT 3 2 [[3], [1, 4]] = true := by decide +kernel
set_option maxRecDepth 1000000 in
theorem okT5_315 : subS 5 okT 3 2 [[3], [1, 5]] = true := by decide +kernel
set_option maxRecDepth 1000000 in
theorem okT5_323 : subS 5 okT 3 2 [[3], [2, 3]] = true := by decide +kernel
set_option maxRecDepth 1000000 in
theorem okT5_324 : subS 5 okT 3 2 [[3], [2, 4]] = true := by decide +kernel
set_option maxRecDepth 1000000 in
theorem okT5_325 : subS 5 okT 3 2 [[3], [2, 5]] = true := by decide +kernel
set_option maxRecDepth 1000000 in
theorem okT5_334 : subS 5 okT 3 2 [[3], [3, 4]] = true := by decide +kernel
set_option maxRecDepth 1000000 in
theorem okT5_335 : subS 5 okT 3 2 [[3], [3, 5]] = true := by decide +kernel
set_option maxRecDepth 1000000 in
theorem okT5_345 : subS 5 okT 3 2 [[3], [4, 5]] = true := by decide +kernel
set_option maxRecDepth 1000000 in
theorem okT5_412 : subS 5 okT 3 2 [[4], [1, 2]] = true := by decide +kernel
set_option maxRecDepth 1000000 in
theorem okT5_413 : subS 5 okT 3 2 [[4], [1, 3]] = true := by decide +kernel
set_option maxRecDepth 1000000 in
theorem okT5_414 : subS 5 okT 3 2 [[4], [1, 4]] = true := by decide +kernel
set_option maxRecDepth 1000000 in
theorem okT5_415 : subS 5 okT 3 2 [[4], [1, 5]] = true := by decide +kernel
set_option maxRecDepth 1000000 in
theorem okT5_423 : subS 5 okT 3 2 [[4], [2, 3]] = true := by decide +kernel
set_option maxRecDepth 1000000 in
theorem okT5_424 : subS 5 okT 3 2 [[4], [2, 4]] = true := by decide +kernel
set_option maxRecDepth 1000000 in
theorem okT5_425 : subS 5 okT 3 2 [[4], [2, 5]] = true := by decide +kernel
set_option maxRecDepth 1000000 in
theorem okT5_434 : subS 5 okT 3 2 [[4], [3, 4]] = true := by decide +kernel
set_option maxRecDepth 1000000 in
theorem okT5_435 : subS 5 okT 3 2 [[4], [3, 5]] = true := by decide +kernel
set_option maxRecDepth 1000000 in
theorem okT5_445 : subS 5 okT 3 2 [[4], [4, 5]] = true := by decide +kernel
set_option maxRecDepth 1000000 in
theorem okT5_512 : subS 5 okT 3 2 [[5], [1, 2]] = true := by decide +kernel
set_option maxRecDepth 1000000 in
theorem okT5_513 : subS 5 okT 3 2 [[5], [1, 3]] = true := by decide +kernel
set_option maxRecDepth 1000000 in
theorem okT5_514 : subS 5 okT 3 2 [[5], [1, 4]] = true := by decide +kernel
set_option maxRecDepth 1000000 in
theorem okT5_515 : subS 5 okT 3 2 [[5], [1, 5]] = true := by decide +kernel
set_option maxRecDepth 1000000 in
theorem okT5_523 : subS 5 okT 3 2 [[5], [2, 3]] = true := by decide +kernel
set_option maxRecDepth 1000000 in
theorem okT5_524 : subS 5 okT 3 2 [[5], [2, 4]] = true := by decide +kernel
set_option maxRecDepth 1000000 in
theorem okT5_525 : subS 5 okT 3 2 [[5], [2, 5]] = true := by decide +kernel
set_option maxRecDepth 1000000 in
theorem okT5_534 : subS 5 okT 3 2 [[5], [3, 4]] = true := by decide +kernel
set_option maxRecDepth 1000000 in
theorem okT5_535 : subS 5 okT 3 2 [[5], [3, 5]] = true := by decide +kernel
set_option maxRecDepth 1000000 in
theorem okT5_545 : subS 5 okT 3 2 [[5], [4, 5]] = true := by decide +kernel
set_option maxRecDepth 1000000 in
theorem shp52 : shp 5 2 = [[[1], [1, 2]], [[1], [1, 3]], [[1], [1, 4]], [[1], [1, 5]], [[1], [2, 3]], [[1], [2, 4]], [[1], [2, 5]], [[1], [3, 4]], [[1], [3, 5]], [[1], [4, 5]], [[2], [1, 2]], [[2], [1, 3]], [[2], [1, 4]], [[2], [1, 5]], [[2], [2, 3]], [[2], [2, 4]], [[2], [2, 5]], [[2], [3, 4]], [[2], [3, 5]], [[2], [4, 5]], [[3], [1, 2]], [[3], [1, 3]], [[3], [1, 4]], [[3], [1, 5]], [[3], [2, 3]], [[3], [2, 4]], [[3], [2, 5]], [[3], [3, 4]], [[3], [3, 5]], [[3], [4, 5]], [[4], [1, 2]], [[4], [1, 3]], [[4], [1, 4]], [[4], [1, 5]], [[4], [2, 3]], [[4], [2, 4]], [[4], [2, 5]], [[4], [3, 4]], [[4], [3, 5]], [[4], [4, 5]], [[5], [1, 2]], [[5], [1, 3]], [[5], [1, 4]], [[5], [1, 5]], [[5], [2, 3]], [[5], [2, 4]], [[5], [2, 5]], [[5], [3, 4]], [[5], [3, 5]], [[5], [4, 5]]] := by decide +kernel
theorem okT5 : (shp 5 5).all okT = true := by
 rw [List.all_eq_true]
 intro q hq
 refine shp_sub 3 2 (fun p hp => ?_) q hq
 rw [shp52] at hp
 simp only [List.mem_cons, List.not_mem_nil, or_false] at hp
 rcases hp with rfl | rfl | rfl | rfl | rfl | rfl | rfl | rfl | rfl | rfl | rfl | rfl | rfl | rfl | rfl | rfl | rfl | rfl | rfl | rfl | rfl | rfl | rfl | rfl | rfl | rfl | rfl | rfl | rfl | rfl | rfl | rfl | rfl | rfl | rfl | rfl | rfl | rfl | rfl | rfl | rfl | rfl | rfl | rfl | rfl | rfl | rfl | rfl | rfl | rfl
 · exact okT5_112
 · exact okT5_113
 · exact okT5_114
 · exact okT5_115
 · exact okT5_123
 · exact okT5_124
 · exact okT5_125
 · exact okT5_134
 · exact okT5_135
 · exact okT5_145
 · exact okT5_212
 · exact okT5_213
 · exact okT5_214
 · exact okT5_215
 · exact okT5_223
 · exact okT5_224
 · exact okT5_225
 · exact okT5_234
 · exact okT5_235
 · exact okT5_245
 · exact okT5_312
 · exact okT5_313
 · exact okT5_314
 · exact okT5_315
 · exact okT5_323
 · exact okT5_324
 · exact okT5_325
 · exact okT5_334
 · exact okT5_335
 · exact okT5_345
 · exact okT5_412
 · exact okT5_413
 · exact okT5_414
 · exact okT5_415
 · exact okT5_423
 · exact okT5_424
 · exact okT5_425
 · exact okT5_434
 · exact okT5_435
 · exact okT5_445
 · exact okT5_512
 · exact okT5_513
 · exact okT5_514
 · exact okT5_515
 · exact okT5_523
 · exact okT5_524
 · exact okT5_525
 · exact okT5_534
 · exact okT5_535
 · exact okT5_545
end Go.Proofs.Ytdinepghommchaa.V
