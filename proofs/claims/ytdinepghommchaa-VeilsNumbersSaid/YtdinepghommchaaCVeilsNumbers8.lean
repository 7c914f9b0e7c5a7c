/- The walks and the pure laws under the claim of VeilsNumbers, part: PureNumbers. -/
import Derived.Test.YtdinepghommchaaCVeilsNumbers6
import Derived.Test.YtdinepghommchaaCVeilsNumbers7
/- What the walk of VeilsNumbers computes is true for every size: five cases, each computed by the kernel over the lists of veils. -/
namespace Go.Proofs.Ytdinepghommchaa.V
open Go.RowKit Go.Proofs.YtdinepghommchaaW.PrintWords Go.Proofs.YtdinepghommchaaW.PrintLast Go.Proofs.YtdinepghommchaaW.PrintMore
/-- What VeilsNumbers does with the answer of All. -/
def numbersOn (n : Int) (bt231 : List (List (List Int)) × Int) : Option Bool :=
  if bt231.2 = 0 then ((some (([0, 1, 2, 7, 42, 429] : List Int) : List Int)).bind fun y235 => (if 0 ≤ n then (if n < (y235.length : Int) then (clochelaw09_VeilsNumbers.j0 1000 bt231.1 ((bt231.1.length : Int) != (rd y235 n))) else (none)) else (none))) else (clochelaw09_VeilsNumbers.j0 1000 bt231.1 true)
theorem numbers_of (a n : Int) (L : List (List (List Int))) (hn : wrap64 (1 + wrap64 (Int.tmod a 5)) = n) (hL : veils_All.f n = some (L, 0)) (h : numbersOn n (L, 0) = some true) : clochelaw09_VeilsNumbers.f 1000 a = some true := by
  unfold clochelaw09_VeilsNumbers.f
  rw [hn, hL]
  exact h
set_option maxRecDepth 1000000 in
theorem numbers1 : numbersOn 1 (veils1, 0) = some true := by decide +kernel
set_option maxRecDepth 1000000 in
theorem numbers2 : numbersOn 2 (veils2, 0) = some true := by decide +kernel
set_option maxRecDepth 1000000 in
theorem numbers3 : numbersOn 3 (veils3, 0) = some true := by decide +kernel
set_option maxRecDepth 1000000 in
theorem numbers4 : numbersOn 4 (veils4, 0) = some true := by decide +kernel
set_option maxRecDepth 1000000 in
theorem numbers5 : numbersOn 5 (veils5, 0) = some true := by decide +kernel
theorem numbers_true (a : Int) (h : 0 ≤ a) : clochelaw09_VeilsNumbers.f 1000 a = some true := by
  have h5 : 0 ≤ Int.tmod a 5 ∧ Int.tmod a 5 < 5 := by rw [Int.tmod_eq_emod_of_nonneg h]; omega
  have : Int.tmod a 5 = 0 ∨ Int.tmod a 5 = 1 ∨ Int.tmod a 5 = 2 ∨ Int.tmod a 5 = 3 ∨ Int.tmod a 5 = 4 := by omega
  rcases this with e | e | e | e | e
  · exact numbers_of a 1 veils1 (by rw [e]; decide +kernel) all1 numbers1
  · exact numbers_of a 2 veils2 (by rw [e]; decide +kernel) all2 numbers2
  · exact numbers_of a 3 veils3 (by rw [e]; decide +kernel) all3 numbers3
  · exact numbers_of a 4 veils4 (by rw [e]; decide +kernel) all4 numbers4
  · exact numbers_of a 5 veils5 (by rw [e]; decide +kernel) all5 numbers5
theorem nonneg_u8 {a : Int} (h : (Lit.int .u8 a).wf = true) : 0 ≤ a := by
  simp [Lit.wf] at h
  rw [show IntKind.u8.min = 0 from by decide] at h
  exact h.1
end Go.Proofs.Ytdinepghommchaa.V
