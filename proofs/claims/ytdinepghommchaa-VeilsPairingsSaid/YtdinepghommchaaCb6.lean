/- The walks and the pure laws under the claims of VeilsAll, VeilsPairings, VeilsSummed, part: Gv, Gi, Gf, Vf22. -/
import Derived.Test.YtdinepghommchaaCb4
import Derived.Test.YtdinepghommchaaCb5
import Derived.Test.YtdinepghommchaaCb1
import Derived.Test.YtdinepghommchaaCb2
/- A table that the specification calls a veil is one of the veils that All lists: grown row by row, compared by the kernel. -/
namespace Go.Proofs.Ytdinepghommchaa.V
open Go.RowKit Go.Proofs.YtdinepghommchaaW.PrintWords Go.Proofs.YtdinepghommchaaW.PrintLast Go.Proofs.YtdinepghommchaaW.PrintMore

/-- All lists of a length out of candidates, each of whose beginnings is good. -/
def grow {α : Type} (cands : List α) (ok : List α → Bool) : Nat → List (List α)
 | 0 => [[]]
 | k + 1 => (grow cands ok k).flatMap fun p => (cands.map fun r => p ++ [r]).filter ok
theorem mem_grow {α : Type} {cands : List α} {ok : List α → Bool} {t : List α} (h1 : ∀ x ∈ t, x ∈ cands) (h2 : ∀ m, m ≤ t.length → ok (t.take m) = true) :
 ∀ m, m ≤ t.length → t.take m ∈ grow cands ok m
 | 0, _ => by simp [grow]
 | m + 1, hm => by
  have ih := mem_grow h1 h2 m (by omega)
  have hlt : m < t.length := by omega
  have e : t.take (m + 1) = t.take m ++ [t[m]] := by rw [List.take_add_one, List.getElem?_eq_getElem hlt]; rfl
  have hok := h2 (m + 1) hm
  rw [e] at hok ⊢
  simp only [grow, List.mem_flatMap, List.mem_filter, List.mem_map]
  exact ⟨_, ih, ⟨t[m], h1 _ (List.getElem_mem hlt), rfl⟩, hok⟩

/-- The sum of the first so many. -/
def ps (f : Nat → Int) : Nat → Int
 | 0 => 0
 | m + 1 => ps f m + f m
def at2 (t : List (List Int)) (i j : Nat) : Int := (t.getD i []).getD j 0
/-- What the specification calls a veil, without its loops. -/
structure Veil (n : Nat) (t : List (List Int)) : Prop where
 n1 : 1 ≤ n
 n5 : n ≤ 5
 len : t.length = n
 row : ∀ i, i < n → (t.getD i []).length = n
 rows : ∀ i, i < n → ∀ m, m ≤ n → 0 ≤ ps (fun j => at2 t i j) m ∧ ps (fun j => at2 t i j) m ≤ 1
 cols : ∀ i, i < n → ∀ m, m ≤ n → 0 ≤ ps (fun j => at2 t j i) m ∧ ps (fun j => at2 t j i) m ≤ 1
 rowN : ∀ i, i < n → ps (fun j => at2 t i j) n = 1
 colN : ∀ i, i < n → ps (fun j => at2 t j i) n = 1

/-- The rows that a veil can have. -/
def rowOf (n : Nat) : List (List Int) := (grow [-1, 0, 1] (fun p => decide (0 ≤ p.sum) && decide (p.sum ≤ 1)) n).filter fun p => decide (p.sum = 1)
def colSum (p : List (List Int)) (j : Nat) : Int := (p.map fun r => r.getD j 0).sum
def okCols (n : Nat) (p : List (List Int)) : Bool := (List.range n).all fun j => decide (0 ≤ colSum p j) && decide (colSum p j ≤ 1)
def veilsOf (n : Nat) : List (List (List Int)) := (grow (rowOf n) (okCols n) n).filter fun p => (List.range n).all fun j => decide (colSum p j = 1)

theorem sum_take_row {f : Nat → Int} {l : List Int} (hf : ∀ j, j < l.length → f j = l.getD j 0) : ∀ m, m ≤ l.length → (l.take m).sum = ps f m
 | 0, _ => by simp [ps]
 | m + 1, hm => by
  have hlt : m < l.length := by omega
  rw [List.take_add_one, List.getElem?_eq_getElem hlt, List.sum_append, sum_take_row hf m (by omega)]
  simp [ps, hf m hlt, List.getD_eq_getElem?_getD, List.getElem?_eq_getElem hlt]
theorem colSum_take (t : List (List Int)) (j : Nat) : ∀ m, m ≤ t.length → colSum (t.take m) j = ps (fun i => at2 t i j) m
 | 0, _ => by simp [ps, colSum]
 | m + 1, hm => by
  have hlt : m < t.length := by omega
  have ih := colSum_take t j m (by omega)
  unfold colSum at ih ⊢
  rw [List.take_add_one, List.getElem?_eq_getElem hlt, List.map_append, List.sum_append, ih]
  simp [ps, at2, List.getD_eq_getElem?_getD, List.getElem?_eq_getElem hlt]
theorem row_mem {n : Nat} {l : List Int} (hl : l.length = n) (h : ∀ m, m ≤ n → 0 ≤ (l.take m).sum ∧ (l.take m).sum ≤ 1) (hN : l.sum = 1) : l ∈ rowOf n := by
 subst hl
 have h1 : ∀ x ∈ l, x ∈ ([-1, 0, 1] : List Int) := by
  intro x hx
  obtain ⟨i, hi, rfl⟩ := List.getElem_of_mem hx
  have a := h i (by omega)
  have b := h (i + 1) (by omega)
  rw [List.take_add_one, List.getElem?_eq_getElem hi, List.sum_append] at b
  simp at b
  have : l[i] = -1 ∨ l[i] = 0 ∨ l[i] = 1 := by omega
  simpa using this
 have := mem_grow (cands := [-1, 0, 1]) (ok := fun p => decide (0 ≤ p.sum) && decide (p.sum ≤ 1)) h1 (fun m hm => by simpa using h m hm) l.length (Nat.le_refl _)
 rw [List.take_length] at this
 exact List.mem_filter.mpr ⟨this, by simpa using hN⟩
theorem Veil.mem {n : Nat} {t : List (List Int)} (h : Veil n t) : t ∈ veilsOf n := by
 obtain ⟨_, _, hl, hr, hrows, hcols, hrn, hcn⟩ := h
 subst hl
 have h1 : ∀ x ∈ t, x ∈ rowOf t.length := by
  intro x hx
  obtain ⟨i, hi, rfl⟩ := List.getElem_of_mem hx
  have e : t.getD i [] = t[i] := by simp [List.getD_eq_getElem?_getD, List.getElem?_eq_getElem hi]
  have el : t[i].length = t.length := by rw [← e]; exact hr i hi
  have hf : ∀ j, j < t[i].length → at2 t i j = t[i].getD j 0 := fun j _ => by unfold at2; rw [e]
  have hs : ∀ m, m ≤ t.length → (t[i].take m).sum = ps (fun j => at2 t i j) m := fun m hm => sum_take_row hf m (by omega)
  refine row_mem el (fun m hm => by rw [hs m hm]; exact hrows i hi m hm) ?_
  have := hs t.length (Nat.le_refl _)
  rw [hrn i hi, List.take_of_length_le (by omega)] at this
  exact this
 have := mem_grow (cands := rowOf t.length) (ok := okCols t.length) h1 (fun m hm => by
  unfold okCols
  rw [List.all_eq_true]
  intro j hj
  have hj' : j < t.length := List.mem_range.mp hj
  rw [colSum_take t j m hm]
  simpa using hcols j hj' m hm) t.length (Nat.le_refl _)
 rw [List.take_length] at this
 refine List.mem_filter.mpr ⟨this, ?_⟩
 rw [List.all_eq_true]
 intro j hj
 have hj' : j < t.length := List.mem_range.mp hj
 have := colSum_take t j t.length (Nat.le_refl _)
 rw [List.take_length, hcn j hj'] at this
 simpa using this
set_option maxRecDepth 1000000 in
theorem veilsOf1 : veilsOf 1 = veils1 := by decide +kernel
set_option maxRecDepth 1000000 in
theorem veilsOf2 : veilsOf 2 = veils2 := by decide +kernel
set_option maxRecDepth 1000000 in
theorem veilsOf3 : veilsOf 3 = veils3 := by decide +kernel
set_option maxRecDepth 1000000 in
theorem veilsOf4 : veilsOf 4 = veils4 := by decide +kernel
set_option maxRecDepth 1000000 in
theorem veilsOf5 : veilsOf 5 = veils5 := by decide +kernel
end Go.Proofs.Ytdinepghommchaa.V

/- The specification's IsVeil always answers, and where it answers true the table is a veil. -/
namespace Go.Proofs.Ytdinepghommchaa.V
open Go.RowKit Go.Proofs.YtdinepghommchaaW.PrintWords Go.Proofs.YtdinepghommchaaW.PrintLast Go.Proofs.YtdinepghommchaaW.PrintMore
theorem wr (n : Int) (h : -1000 ≤ n ∧ n ≤ 1000) : wrap64 n = n := by unfold wrap64; omega
theorem rdL1_cast (t : List (List Int)) (i : Nat) : rd_L1 t (i : Int) = t.getD i [] := by unfold rd_L1; rw [Int.toNat_natCast]
theorem rd_cast (l : List Int) (i : Nat) : rd l (i : Int) = l.getD i 0 := by unfold rd; rw [Int.toNat_natCast]
theorem wr_succ (x : Nat) (h : x ≤ 100) : wrap64 ((x : Int) + 1) = ((x + 1 : Nat) : Int) := by rw [wr _ (by omega)]; omega

theorem isVeil_l1 (t : List (List Int)) (n i : Nat) (hn : n ≤ 20) (hi : i < n) (ht : t.length = n) (hr : (t.getD i []).length = n) : ∀ d k j, j + d = n →
 clocheref09_IsVeil.l1 (k + d + 1) t n i j = some false ∨ ((∀ m, j ≤ m → m < n → -1 ≤ at2 t i m ∧ at2 t i m ≤ 1) ∧ clocheref09_IsVeil.l1 (k + d + 1) t n i j = clocheref09_IsVeil.l0 k t n (i + 1 : Nat))
 | 0, k, j, h => by
  right
  refine ⟨fun m h1 h2 => by omega, ?_⟩
  rw [Nat.add_zero, clocheref09_IsVeil.l1, if_neg (by omega), wr_succ i (by omega)]
 | d + 1, k, j, h => by
  have ih := isVeil_l1 t n i hn hi ht hr d k (j + 1) (by omega)
  rw [show k + (d + 1) + 1 = (k + d + 1) + 1 from rfl, clocheref09_IsVeil.l1, if_pos (by omega), if_pos (by omega), if_pos (by omega), if_pos (by omega), if_pos (by rw [rdL1_cast, hr]; omega), rdL1_cast, rd_cast]
  by_cases c1 : (t.getD i []).getD j 0 < -1
  · left; rw [if_pos c1]
  · rw [if_neg c1]
    by_cases c2 : (t.getD i []).getD j 0 > 1
    · left; rw [if_pos c2]
    · rw [if_neg c2, wr_succ j (by omega)]
      rcases ih with ih | ⟨ih1, ih2⟩
      · left; exact ih
      · right
        refine ⟨fun m h1 h2 => ?_, ih2⟩
        by_cases e : m = j
        · subst e; unfold at2; omega
        · exact ih1 m (by omega) h2

theorem isVeil_l3 (t : List (List Int)) (n i : Nat) (hn : n ≤ 20) (hi : i < n) (ht : t.length = n) (hr : ∀ i, i < n → (t.getD i []).length = n) (hb : ∀ i, i < n → ∀ j, j < n → -1 ≤ at2 t i j ∧ at2 t i j ≤ 1) : ∀ d k j, j + d = n →
 0 ≤ ps (fun j => at2 t i j) j ∧ ps (fun j => at2 t i j) j ≤ 1 → 0 ≤ ps (fun j => at2 t j i) j ∧ ps (fun j => at2 t j i) j ≤ 1 →
 clocheref09_IsVeil.l3 (k + d + 1) t n i (ps (fun j => at2 t i j) j) (ps (fun j => at2 t j i) j) j = some false ∨
 ((∀ m, j ≤ m → m ≤ n → (0 ≤ ps (fun j => at2 t i j) m ∧ ps (fun j => at2 t i j) m ≤ 1) ∧ 0 ≤ ps (fun j => at2 t j i) m ∧ ps (fun j => at2 t j i) m ≤ 1) ∧ ps (fun j => at2 t i j) n = 1 ∧ ps (fun j => at2 t j i) n = 1 ∧
  clocheref09_IsVeil.l3 (k + d + 1) t n i (ps (fun j => at2 t i j) j) (ps (fun j => at2 t j i) j) j = clocheref09_IsVeil.l2 k t n (i + 1 : Nat))
 | 0, k, j, h, h1, h2 => by
  obtain rfl : j = n := by omega
  rw [Nat.add_zero, clocheref09_IsVeil.l3, if_neg (by omega)]
  by_cases c1 : ps (fun j => at2 t i j) j = 1
  · rw [if_pos c1]
    by_cases c2 : ps (fun j => at2 t j i) j = 1
    · rw [if_pos c2, wr_succ i (by omega)]
      right
      refine ⟨fun m a b => ?_, c1, c2, rfl⟩
      obtain rfl : m = j := by omega
      exact ⟨h1, h2⟩
    · left; rw [if_neg c2]
  · left; rw [if_neg c1]
 | d + 1, k, j, h, h1, h2 => by
  have b1 := hb i hi j (by omega)
  have b2 := hb j (by omega) i hi
  have e1 : wrap64 (ps (fun j => at2 t i j) j + (t.getD i []).getD j 0) = ps (fun j => at2 t i j) (j + 1) := by
    rw [wr _ (by unfold at2 at b1; omega)]; rfl
  have e2 : wrap64 (ps (fun j => at2 t j i) j + (t.getD j []).getD i 0) = ps (fun j => at2 t j i) (j + 1) := by
    rw [wr _ (by unfold at2 at b2; omega)]; rfl
  rw [show k + (d + 1) + 1 = (k + d + 1) + 1 from rfl, clocheref09_IsVeil.l3, if_pos (by omega), if_pos (by omega), if_pos (by omega), if_pos (by omega), if_pos (by rw [rdL1_cast, hr i hi]; omega), if_pos (by omega), if_pos (by rw [rdL1_cast, hr j (by omega)]; omega), rdL1_cast, rdL1_cast, rd_cast, rd_cast, e1, e2]
  by_cases c1 : ps (fun j => at2 t i j) (j + 1) < 0
  · left; rw [if_pos c1]
  rw [if_neg c1]
  by_cases c2 : ps (fun j => at2 t i j) (j + 1) > 1
  · left; rw [if_pos c2]
  rw [if_neg c2]
  by_cases c3 : ps (fun j => at2 t j i) (j + 1) < 0
  · left; rw [if_pos c3]
  rw [if_neg c3]
  by_cases c4 : ps (fun j => at2 t j i) (j + 1) > 1
  · left; rw [if_pos c4]
  rw [if_neg c4, wr_succ j (by omega)]
  rcases isVeil_l3 t n i hn hi ht hr hb d k (j + 1) (by omega) ⟨by omega, by omega⟩ ⟨by omega, by omega⟩ with ih | ⟨ih1, ih2, ih3, ih4⟩
  · left; exact ih
  · right
    refine ⟨fun m a b => ?_, ih2, ih3, ih4⟩
    by_cases e : m = j
    · subst e; exact ⟨h1, h2⟩
    · exact ih1 m (by omega) b

theorem isVeil_l2 (t : List (List Int)) (n : Nat) (hn : n ≤ 20) (ht : t.length = n) (hr : ∀ i, i < n → (t.getD i []).length = n) (hb : ∀ i, i < n → ∀ j, j < n → -1 ≤ at2 t i j ∧ at2 t i j ≤ 1) : ∀ d k i, i + d = n →
 clocheref09_IsVeil.l2 (k + d * (n + 2) + 1) t n i = some false ∨
 ((∀ m, i ≤ m → m < n → (∀ j, j ≤ n → (0 ≤ ps (fun j => at2 t m j) j ∧ ps (fun j => at2 t m j) j ≤ 1) ∧ 0 ≤ ps (fun j => at2 t j m) j ∧ ps (fun j => at2 t j m) j ≤ 1) ∧ ps (fun j => at2 t m j) n = 1 ∧ ps (fun j => at2 t j m) n = 1) ∧
  clocheref09_IsVeil.l2 (k + d * (n + 2) + 1) t n i = some true)
 | 0, k, i, h => by
  right
  refine ⟨fun m a b => by omega, ?_⟩
  rw [clocheref09_IsVeil.l2, if_neg (by omega)]
 | d + 1, k, i, h => by
  rw [show k + (d + 1) * (n + 2) + 1 = (k + d * (n + 2) + 1 + n + 1) + 1 by rw [Nat.succ_mul]; omega, clocheref09_IsVeil.l2, if_pos (by omega)]
  have h3 := isVeil_l3 t n i hn (by omega) ht hr hb n (k + d * (n + 2) + 1) 0 (by omega) ⟨by simp [ps], by simp [ps]⟩ ⟨by simp [ps], by simp [ps]⟩
  rw [show ps (fun j => at2 t i j) 0 = 0 from rfl, show ps (fun j => at2 t j i) 0 = 0 from rfl] at h3
  rcases h3 with h3 | ⟨h31, h32, h33, h34⟩
  · left; exact h3
  · rw [show ((0 : Nat) : Int) = 0 from rfl] at h34
    rw [h34]
    rcases isVeil_l2 t n hn ht hr hb d k (i + 1) (by omega) with ih | ⟨ih1, ih2⟩
    · left; exact ih
    · right
      refine ⟨fun m a b => ?_, ih2⟩
      by_cases e : m = i
      · subst e; exact ⟨fun j hj => h31 j (by omega) hj, h32, h33⟩
      · exact ih1 m (by omega) b

theorem isVeil_l0 (t : List (List Int)) (n : Nat) (hn : n ≤ 20) (ht : t.length = n) : ∀ d k i, i + d = n →
 clocheref09_IsVeil.l0 (k + d * (n + 2) + 1) t n i = some false ∨
 ((∀ m, i ≤ m → m < n → (t.getD m []).length = n ∧ ∀ j, j < n → -1 ≤ at2 t m j ∧ at2 t m j ≤ 1) ∧
  clocheref09_IsVeil.l0 (k + d * (n + 2) + 1) t n i = clocheref09_IsVeil.l2 k t n 0)
 | 0, k, i, h => by
  right
  refine ⟨fun m a b => by omega, ?_⟩
  rw [show k + 0 * (n + 2) + 1 = k + 1 by omega, clocheref09_IsVeil.l0, if_neg (by omega)]
 | d + 1, k, i, h => by
  rw [show k + (d + 1) * (n + 2) + 1 = (k + d * (n + 2) + 1 + n + 1) + 1 by rw [Nat.succ_mul]; omega, clocheref09_IsVeil.l0, if_pos (by omega), if_pos (by omega), if_pos (by omega), rdL1_cast]
  by_cases c : (((t.getD i []).length : Nat) : Int) = (n : Int)
  · rw [if_pos c]
    have c' : (t.getD i []).length = n := by omega
    rcases isVeil_l1 t n i hn (by omega) ht c' n (k + d * (n + 2) + 1) 0 (by omega) with h1 | ⟨h1, h2⟩
    · left; exact h1
    · rw [show ((0 : Nat) : Int) = 0 from rfl] at h2
      rw [h2]
      rcases isVeil_l0 t n hn ht d k (i + 1) (by omega) with ih | ⟨ih1, ih2⟩
      · left; exact ih
      · right
        refine ⟨fun m a b => ?_, ih2⟩
        by_cases e : m = i
        · subst e; exact ⟨c', fun j hj => h1 j (by omega) hj⟩
        · exact ih1 m (by omega) b
  · left; rw [if_neg c]

theorem isVeil_spec (t : List (List Int)) : clocheref09_IsVeil.f 100 t = some false ∨ (clocheref09_IsVeil.f 100 t = some true ∧ Veil t.length t) := by
 unfold clocheref09_IsVeil.f
 by_cases c1 : (t.length : Int) < 1
 · left; rw [if_pos c1, clocheref09_IsVeil.j0, if_pos rfl]
 rw [if_neg c1]
 by_cases c2 : (t.length : Int) > 5
 · left; rw [decide_eq_true c2, clocheref09_IsVeil.j0, if_pos rfl]
 rw [decide_eq_false c2, clocheref09_IsVeil.j0, if_neg (by decide)]
 obtain ⟨n, hn⟩ : ∃ n, n = t.length := ⟨_, rfl⟩
 rw [← hn] at c1 c2 ⊢
 have h5 : n ≤ 5 := by omega
 have h7 : n * (n + 2) ≤ 5 * 7 := Nat.mul_le_mul h5 (by omega)
 rcases isVeil_l0 t n (by omega) hn.symm n (98 - n * (n + 2)) 0 (by omega) with h0 | ⟨h0, e0⟩
 · left; rw [show 98 - n * (n + 2) + n * (n + 2) + 1 = 99 by omega] at h0; exact h0
 rw [show 98 - n * (n + 2) + n * (n + 2) + 1 = 99 by omega, show ((0 : Nat) : Int) = 0 from rfl] at e0
 rw [e0]
 rcases isVeil_l2 t n (by omega) hn.symm (fun i hi => (h0 i (by omega) hi).1) (fun i hi => (h0 i (by omega) hi).2) n (98 - n * (n + 2) - n * (n + 2) - 1) 0 (by omega) with h2 | ⟨h2, e2⟩
 · left; rw [show 98 - n * (n + 2) - n * (n + 2) - 1 + n * (n + 2) + 1 = 98 - n * (n + 2) by omega] at h2; exact h2
 rw [show 98 - n * (n + 2) - n * (n + 2) - 1 + n * (n + 2) + 1 = 98 - n * (n + 2) by omega] at e2
 right
 exact ⟨e2, by omega, h5, hn.symm, fun i hi => (h0 i (by omega) hi).1, fun i hi m hm => ((h2 i (by omega) hi).1 m hm).1, fun i hi m hm => ((h2 i (by omega) hi).1 m hm).2, fun i hi => (h2 i (by omega) hi).2.1, fun i hi => (h2 i (by omega) hi).2.2⟩

/-- All veils. -/
def veilsAll : List (List (List Int)) := veils1 ++ veils2 ++ veils3 ++ veils4 ++ veils5
/-- What is true of all listed veils is true of all tables that are veils. -/
theorem of_veil {P : List (List Int) → Bool} (hP : veilsAll.all P = true) {t : List (List Int)} (h : Veil t.length t) : P t = true := by
 have hm := h.mem
 have a := List.all_eq_true.mp hP
 refine a t ?_
 have h1 := h.n1
 have h5 := h.n5
 generalize t.length = n at hm h1 h5
 have hn : n = 1 ∨ n = 2 ∨ n = 3 ∨ n = 4 ∨ n = 5 := by omega
 unfold veilsAll
 simp only [List.mem_append]
 rcases hn with rfl | rfl | rfl | rfl | rfl
 · rw [veilsOf1] at hm; simp [hm]
 · rw [veilsOf2] at hm; simp [hm]
 · rw [veilsOf3] at hm; simp [hm]
 · rw [veilsOf4] at hm; simp [hm]
 · rw [veilsOf5] at hm; simp [hm]
end Go.Proofs.Ytdinepghommchaa.V

/- The search of all veils is a fold over the list of the veils that it finds. -/
namespace Go.Proofs.Ytdinepghommchaa.V
open Go.RowKit Go.Proofs.YtdinepghommchaaW.PrintWords Go.Proofs.YtdinepghommchaaW.PrintLast Go.Proofs.YtdinepghommchaaW.PrintMore
/-- What is found is put at the end of a list. -/
def foundL (t : List (List Int)) (out : List (List (List Int))) : Option (List (List (List Int))) := some (out ++ [t])
def foldO {α : Type} (found : List (List Int) → α → Option α) : List (List (List Int)) → α → Option α
 | [], a => some a
 | t :: L, a => (found t a).bind (foldO found L)
theorem foldO_append {α : Type} (found : List (List Int) → α → Option α) : ∀ L M a, foldO found (L ++ M) a = (foldO found L a).bind (foldO found M)
 | [], M, a => rfl
 | t :: L, M, a => by
  simp only [List.cons_append, foldO]
  cases found t a with
  | none => rfl
  | some b => simpa using foldO_append found L M b
/-- What a search with the list tells of the same search with another function. -/
def Tells {α : Type} (found : List (List Int) → α → Option α) (o0 : List (List (List Int)) → Option (VS × List (List (List Int)))) (o : α → Option (VS × α)) : Prop :=
 ∀ out s' out', o0 out = some (s', out') → ∃ L, out' = out ++ L ∧ ∀ a, o a = (foldO found L a).map (fun b => (s', b))
theorem tells_try {α : Type} {found : List (List Int) → α → Option α} {on0 : Nat → VS → List (List (List Int)) → Option (VS × List (List (List Int)))} {on : Nat → VS → α → Option (VS × α)}
 (h : ∀ p s, Tells found (on0 p s) (on p s)) (n p i j : Nat) (x : Int) (s : VS) : Tells found (fun out => tryF on0 n p i j x (s, out)) (fun a => tryF on n p i j x (s, a)) := by
 intro out s' out' e
 unfold tryF at e ⊢
 dsimp only at e ⊢
 by_cases c1 : wrap64 (rd s.rows (i : Int) + x) < 0
 · simp only [if_pos c1] at e ⊢
   simp only [Option.some.injEq, Prod.mk.injEq] at e
   obtain ⟨rfl, rfl⟩ := e
   exact ⟨[], by simp, fun a => rfl⟩
 simp only [if_neg c1] at e ⊢
 by_cases c2 : 1 < wrap64 (rd s.rows (i : Int) + x)
 · simp only [if_pos c2] at e ⊢
   simp only [Option.some.injEq, Prod.mk.injEq] at e
   obtain ⟨rfl, rfl⟩ := e
   exact ⟨[], by simp, fun a => rfl⟩
 simp only [if_neg c2] at e ⊢
 by_cases c3 : wrap64 (rd s.cols (j : Int) + x) < 0
 · simp only [if_pos c3] at e ⊢
   simp only [Option.some.injEq, Prod.mk.injEq] at e
   obtain ⟨rfl, rfl⟩ := e
   exact ⟨[], by simp, fun a => rfl⟩
 simp only [if_neg c3] at e ⊢
 by_cases c4 : 1 < wrap64 (rd s.cols (j : Int) + x)
 · simp only [if_pos c4] at e ⊢
   simp only [Option.some.injEq, Prod.mk.injEq] at e
   obtain ⟨rfl, rfl⟩ := e
   exact ⟨[], by simp, fun a => rfl⟩
 simp only [if_neg c4] at e ⊢
 by_cases c5 : (j : Int) = (n : Int) - 1 ∧ wrap64 (rd s.rows (i : Int) + x) ≠ 1
 · simp only [if_pos c5] at e ⊢
   simp only [Option.some.injEq, Prod.mk.injEq] at e
   obtain ⟨rfl, rfl⟩ := e
   exact ⟨[], by simp, fun a => rfl⟩
 simp only [if_neg c5] at e ⊢
 obtain ⟨⟨s1, out1⟩, e1, e2⟩ := Option.map_eq_some_iff.mp e
 simp only [Prod.mk.injEq] at e2
 obtain ⟨rfl, rfl⟩ := e2
 obtain ⟨L, hL, hf⟩ := h _ _ out s1 out1 e1
 refine ⟨L, hL, fun a => ?_⟩
 rw [hf a]
 cases foldO found L a <;> rfl
theorem tells_rest {α : Type} {found : List (List Int) → α → Option α} {on0 : Nat → VS → List (List (List Int)) → Option (VS × List (List (List Int)))} {on : Nat → VS → α → Option (VS × α)}
 (h : ∀ p s, Tells found (on0 p s) (on p s)) (n p i j : Nat) : ∀ k s, Tells found (fun out => restF on0 n p i j k (s, out)) (fun a => restF on n p i j k (s, a))
 | 0, s => by
   intro out s' out' e
   simp only [restF, Option.some.injEq, Prod.mk.injEq] at e
   obtain ⟨rfl, rfl⟩ := e
   exact ⟨[], by simp, fun a => rfl⟩
 | k + 1, s => by
   intro out s' out' e
   simp only [restF] at e ⊢
   obtain ⟨⟨s1, out1⟩, e1, e2⟩ := Option.bind_eq_some_iff.mp e
   obtain ⟨L, hL, hf⟩ := tells_try h n p i j _ s out s1 out1 e1
   obtain ⟨M, hM, hg⟩ := tells_rest h n p i j k s1 out1 s' out' e2
   refine ⟨L ++ M, by rw [hM, hL, List.append_assoc], fun a => ?_⟩
   have hf' := hf a
   dsimp only at hf'
   rw [hf', foldO_append]
   cases foldO found L a with
   | none => rfl
   | some b => exact hg b
theorem tells_on {α : Type} (n : Nat) (found : List (List Int) → α → Option α) : ∀ k p s, Tells found (onF n foundL k p s) (onF n found k p s)
 | 0, p, s => by
   intro out s' out' e
   simp [onF] at e
 | k + 1, p, s => by
   intro out s' out' e
   simp only [onF] at e ⊢
   by_cases c : p = n * n
   · simp only [if_pos c] at e ⊢
     obtain ⟨m, em, e⟩ := Option.bind_eq_some_iff.mp e
     by_cases c1 : m = 1
     · simp only [if_pos c1, foundL, Option.map_some, Option.some.injEq, Prod.mk.injEq] at e
       obtain ⟨rfl, rfl⟩ := e
       refine ⟨[s.t], rfl, fun a => ?_⟩
       simp only [em, Option.bind_some, if_pos c1, foldO]
       cases found s.t a <;> rfl
     · simp only [if_neg c1, Option.some.injEq, Prod.mk.injEq] at e
       obtain ⟨rfl, rfl⟩ := e
       refine ⟨[], by simp, fun a => ?_⟩
       simp only [em, Option.bind_some, if_neg c1]
       rfl
   · simp only [if_neg c] at e ⊢
     exact tells_rest (fun p s => tells_on n found k p s) n p (p / n) (p % n) 3 s out s' out' e
theorem all_fold {α : Type} {n : Nat} {L : List (List (List Int))} (hL : veils_all.f n foundL [] = some L) (found : List (List Int) → α → Option α) (a : α) : veils_all.f n found a = foldO found L a := by
 unfold veils_all.f at hL ⊢
 obtain ⟨⟨s', out'⟩, e, e2⟩ := Option.map_eq_some_iff.mp hL
 obtain ⟨M, hM, hf⟩ := tells_on n found _ _ _ [] s' out' e
 simp only [List.nil_append] at hM
 dsimp only at e2
 subst hM e2
 rw [hf a]
 cases foldO found _ a <;> rfl
set_option maxRecDepth 1000000 in
theorem found1 : veils_all.f 1 foundL [] = some veils1 := by decide +kernel
set_option maxRecDepth 1000000 in
theorem found2 : veils_all.f 2 foundL [] = some veils2 := by decide +kernel
set_option maxRecDepth 1000000 in
theorem found3 : veils_all.f 3 foundL [] = some veils3 := by decide +kernel
set_option maxRecDepth 1000000 in
theorem found4 : veils_all.f 4 foundL [] = some veils4 := by decide +kernel
set_option maxRecDepth 1000000 in
theorem found5 : veils_all.f 5 foundL [] = some veils5 := by decide +kernel
end Go.Proofs.Ytdinepghommchaa.V

-- Written by a program of this session over the kit's printer: wip/gp.py.
namespace Go.Proofs.Ytdinepghommchaa.V
open Go.RowKit Go.Proofs.YtdinepghommchaaW.PrintWords Go.Proofs.YtdinepghommchaaW.PrintLast Go.Proofs.YtdinepghommchaaW.PrintMore
attribute [local go_sem] max2_int min2_int max_two min_two max_three min_three max_four min_four   -- for this text's walks alone
set_option linter.unusedVariables false
set_option linter.unusedSimpArgs false

/-! ### veils_Pairing: function 22 -/
def veils_Pairing.f (k : Nat) (l0 : List (List Int)) : Option (List Int × Int) := (veils_read.f k l0).bind fun bt304 => (if bt304.2 = true then ((veils_raised.f bt304.1).bind fun t308 => ((veils_heights_pairing.f k t308).bind fun t311 => (some (t311, 0)))) else (some (([] : List Int), 2)))
set_option maxHeartbeats 8000000 in
set_option maxRecDepth 100000 in
theorem veils_Pairing.calls (k : Nat) (A0 : Option Addr) (c0 : Nat) (l0 : List (List Int)) (r1 : List Int) (r2 : Int) (w : World) (hr0 : Kd.C (Kd.slice 3 (Kd.int .i64)) w A0 l0.length l0) (hc0 : l0.length ≤ c0) (h : veils_Pairing.f k l0 = some (r1, r2)) :
 Calls Try.prog 22 #[.slice A0 l0.length c0] w fun e w' => ∃ v0_ : Value, e = .returned (.tuple #[v0_, .int .i64 r2]) ∧ Kd.R (Kd.int .i64) 3 w' w.heap.size (fun _ => True) v0_ r1 ∧ Below w.heap.size w w' := by
 have HR0 := Aside0.mk hr0
 have HC0 := Aside0.mk hc0
 clear hr0 hc0
 have HB := Aside0.mk (Below.refl w.heap.size w)
 have H : ((veils_read.f k l0).bind fun bt304 => (if bt304.2 = true then ((veils_raised.f bt304.1).bind fun t308 => ((veils_heights_pairing.f k t308).bind fun t311 => (some (t311, 0)))) else (some (([] : List Int), 2)))) = some (r1, r2) := h
 clear h
 replace H := Option.bind_eq_some_iff.mp H
 obtain ⟨⟨t304, t307⟩, A20, H⟩ := H
 replace H : (if t307 = true then ((veils_raised.f t304).bind fun t308 => ((veils_heights_pairing.f k t308).bind fun t311 => (some (t311, 0)))) else (some (([] : List Int), 2))) = some (r1, r2) := H
 have A2 := Aside0.mk A20
 clear A20
 by_cases c3 : t307 = true
 · subst c3
   have H1 : ((veils_raised.f t304).bind fun t308 => ((veils_heights_pairing.f k t308).bind fun t311 => (some (t311, 0)))) = some (r1, r2) := by rw [if_pos rfl] at H; exact H
   clear H
   have H := H1
   clear H1
   replace H := Option.bind_eq_some_iff.mp H
   obtain ⟨t308, A40, H⟩ := H
   replace H : ((veils_heights_pairing.f k t308).bind fun t311 => (some (t311, 0))) = some (r1, r2) := H
   have A4 := Aside0.mk A40
   clear A40
   replace H := Option.bind_eq_some_iff.mp H
   obtain ⟨t311, A50, H⟩ := H
   replace H : (some (t311, 0)) = some (r1, r2) := H
   have A5 := Aside0.mk A50
   clear A50
   simp only [Option.some.injEq, Prod.mk.injEq] at H
   obtain ⟨rfl, rfl⟩ := H
   go_enter Try.func22, Try.ntmps22
   go_wp2_with (first | ((with_reducible refine gate_callee (f := 51) rfl ?_); refine goesL_ (some 8) rfl rfl Try.func51 (by kernel_rfl) rfl #[.slice A0 l0.length c0] rfl ar_ ?_; (with_reducible refine (veils_read.calls k (fun k_ => k_ < w.heap.size) _ _ l0 t304 true _ ?side1 A2.out).mono ?_); (case side1 => exact Kd.V_mk HC0.out (Kd.F_below (Kd.C_F (Kd.heap_slice 3 (Kd.heap_int .i64)) HR0.out) (bel_))); rintro e w6 ⟨v305, rfl, ho0, hb⟩; refine ⟨_, rfl, ?_⟩; have n0_ := Aside0.mk (Kd.V_lower (Kd.V_mono (ok' := fun k_ => True) ho0 (fun k_ hk_ => trivial)) (below_size (bel_))); have n1_ := Aside0.mk (below_step (bel_) hb); clear HB; have HO306 := n0_; have HB := n1_; clear n0_ n1_; (try clear hb); (try clear hb2); (try clear hk); (try clear hi); (try clear ho0); obtain ⟨Ao7, co7, eo7⟩ := Kd.V_slice HO306.out; subst eo7) | ((with_reducible refine gate_callee (f := 49) rfl ?_); refine goesL_ (some 15) rfl rfl Try.func49 (by kernel_rfl) rfl #[.iface 49 (.slice Ao7 t304.length co7)] rfl ar_ ?_; (with_reducible refine (veils_raised.calls _ _ t304 t308 _ ?side1 ?side2 A4.out).mono ?_); (case side1 => repeat (first | exact (Kd.V_reads' HO306.out).2.2 | (with_reducible refine Kd.C_alloc ?_ _) | (with_reducible refine Kd.C_drewN ?_ _) | (with_reducible refine Kd.C_drew ?_))); (case side2 => exact (Kd.V_reads' HO306.out).2.1); rintro e w8 ⟨v309, rfl, ho0, hb⟩; refine ⟨_, rfl, ?_⟩; have n0_ := Aside0.mk (Kd.V_elder' (nV_ HO306.out) (Kd.S_base ho0) hb); have n1_ := Aside0.mk (Kd.S_lower ho0 (below_size (bel_))); have n2_ := Aside0.mk (below_step (bel_) hb); clear HO306; clear HB; have HO306 := n0_; have HO310 := n1_; have HB := n2_; clear n0_ n1_ n2_; (try clear hb); (try clear hb2); (try clear hk); (try clear hi); (try clear ho0); obtain ⟨Ao9, co9, eo9⟩ := Kd.S_slice HO310.out; subst eo9) | ((with_reducible refine gate_callee (f := 50) rfl ?_); refine goesL_ (some 16) rfl rfl Try.func50 (by kernel_rfl) rfl #[.slice Ao9 t308.length co9] rfl ar_ ?_; (with_reducible refine (veils_heights_pairing.calls k _ _ t308 t311 _ ?side1 ?side2 A5.out).mono ?_); (case side1 => repeat (first | exact (Kd.S_reads' HO310.out).2.2 | (with_reducible refine Kd.C_alloc ?_ _) | (with_reducible refine Kd.C_drewN ?_ _) | (with_reducible refine Kd.C_drew ?_))); (case side2 => exact (Kd.S_reads' HO310.out).2.1); rintro e w10 ⟨v312, rfl, ho0, hb⟩; refine ⟨_, rfl, ?_⟩; have n0_ := Aside0.mk (Kd.V_elder' (nV_ HO306.out) (Kd.R_base ho0) hb); have n1_ := Aside0.mk (Kd.S_elder' (nS_ HO310.out) (Kd.R_base ho0) hb); have n2_ := Aside0.mk (Kd.R_lower ho0 (below_size (bel_))); have n3_ := Aside0.mk (below_step (bel_) hb); clear HO306; clear HO310; clear HB; have HO306 := n0_; have HO310 := n1_; have HO313 := n2_; have HB := n3_; clear n0_ n1_ n2_ n3_; (try clear hb); (try clear hb2); (try clear hk); (try clear hi); (try clear ho0)))
   go_ret2
   exact ⟨_, er_, by (with_reducible repeat (first | apply Kd.R_alloc | apply Kd.R_drewN | apply Kd.R_drew)); exact HO313.out, bel_⟩
 · replace c3 := Bool.eq_false_iff.mpr c3
   subst c3
   have H1 : (some (([] : List Int), 2)) = some (r1, r2) := by rw [if_neg (show ¬ (false = true) by decide)] at H; exact H
   clear H
   have H := H1
   clear H1
   simp only [Option.some.injEq, Prod.mk.injEq] at H
   obtain ⟨rfl, rfl⟩ := H
   go_enter Try.func22, Try.ntmps22
   go_wp2_with (first | ((with_reducible refine gate_callee (f := 51) rfl ?_); refine goesL_ (some 8) rfl rfl Try.func51 (by kernel_rfl) rfl #[.slice A0 l0.length c0] rfl ar_ ?_; (with_reducible refine (veils_read.calls k (fun k_ => k_ < w.heap.size) _ _ l0 t304 false _ ?side1 A2.out).mono ?_); (case side1 => exact Kd.V_mk HC0.out (Kd.F_below (Kd.C_F (Kd.heap_slice 3 (Kd.heap_int .i64)) HR0.out) (bel_))); rintro e w11 ⟨v305, rfl, ho0, hb⟩; refine ⟨_, rfl, ?_⟩; have n0_ := Aside0.mk (Kd.V_lower (Kd.V_mono (ok' := fun k_ => True) ho0 (fun k_ hk_ => trivial)) (below_size (bel_))); have n1_ := Aside0.mk (below_step (bel_) hb); clear HB; have HO306 := n0_; have HB := n1_; clear n0_ n1_; (try clear hb); (try clear hb2); (try clear hk); (try clear hi); (try clear ho0)))
   go_ret2
   exact ⟨_, er_, by first | exact Kd.R_nil _ _ _ _ _ | exact Kd.N_nil _ _ _ _ _ | exact Kd.V_nil _ _ _ _ _ | exact Kd.Q_nil _ _ _ _ _ | exact Kd.S_nil _ _ _ _ _, bel_⟩

end Go.Proofs.Ytdinepghommchaa.V
