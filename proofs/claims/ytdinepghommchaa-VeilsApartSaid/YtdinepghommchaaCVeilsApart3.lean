/- The walks, their words and the pure laws under the claim of VeilsApart, part: Gv, Gi, Gf, Vf54, Vf98, Vf49, Vf70, Vf79, Vf68, Vf69, Vf51, Vf77, Vf76, Vf74, Vf65, Ve0, Vf66. -/
import Derived.Test.YtdinepghommchaaCVeilsApart1
import Derived.Test.YtdinepghommchaaCVeilsApart2
/- A table that the specification calls a veil is one of the veils that All lists: grown row by row, compared by the kernel. -/
namespace Go.Proofs.Ytdinepghommchaa.V
open Go.RowKit Go.Proofs.YtdinepghommchaaW.PrintWords Go.Proofs.YtdinepghommchaaW.PrintLast Go.Proofs.YtdinepghommchaaW.PrintMore

/-- All lists of a length out of candidates, each of whose beginnings is good. -/
def grow {α : Type} (cands : List α) (ok : List α → Bool) : Nat → List (List α)
 | 0 => [[]]
 | k + 1 => (grow cands ok k).flatMap fun p => (cands.map fun r => p ++ [r]).filter ok
theorem mem_grow {α : Type} {cands : List α} {ok : List α → Bool} {t : List α} (h1 : ∀ x ∈ t, x ∈ cands) (h2 : ∀ m, m ≤ t.length → ok (t.take m) = true) :
 ∀ m, m ≤ t.length → t.take m ∈ grow cands ok m
 | 0, _ => by simp [grow]
 | m + 1, hm => by
  have ih := mem_grow h1 h2 m (by omega)
  have hlt : m < t.length := by omega
  have e : t.take (m + 1) = t.take m ++ [t[m]] := by rw [List.take_add_one, List.getElem?_eq_getElem hlt]; rfl
  have hok := h2 (m + 1) hm
  rw [e] at hok ⊢
  simp only [grow, List.mem_flatMap, List.mem_filter, List.mem_map]
  exact ⟨_, ih, ⟨t[m], h1 _ (List.getElem_mem hlt), rfl⟩, hok⟩

/-- The sum of the first so many. -/
def ps (f : Nat → Int) : Nat → Int
 | 0 => 0
 | m + 1 => ps f m + f m
def at2 (t : List (List Int)) (i j : Nat) : Int := (t.getD i []).getD j 0
/-- What the specification calls a veil, without its loops. -/
structure Veil (n : Nat) (t : List (List Int)) : Prop where
 n1 : 1 ≤ n
 n5 : n ≤ 5
 len : t.length = n
 row : ∀ i, i < n → (t.getD i []).length = n
 rows : ∀ i, i < n → ∀ m, m ≤ n → 0 ≤ ps (fun j => at2 t i j) m ∧ ps (fun j => at2 t i j) m ≤ 1
 cols : ∀ i, i < n → ∀ m, m ≤ n → 0 ≤ ps (fun j => at2 t j i) m ∧ ps (fun j => at2 t j i) m ≤ 1
 rowN : ∀ i, i < n → ps (fun j => at2 t i j) n = 1
 colN : ∀ i, i < n → ps (fun j => at2 t j i) n = 1

/-- The rows that a veil can have. -/
def rowOf (n : Nat) : List (List Int) := (grow [-1, 0, 1] (fun p => decide (0 ≤ p.sum) && decide (p.sum ≤ 1)) n).filter fun p => decide (p.sum = 1)
def colSum (p : List (List Int)) (j : Nat) : Int := (p.map fun r => r.getD j 0).sum
def okCols (n : Nat) (p : List (List Int)) : Bool := (List.range n).all fun j => decide (0 ≤ colSum p j) && decide (colSum p j ≤ 1)
def veilsOf (n : Nat) : List (List (List Int)) := (grow (rowOf n) (okCols n) n).filter fun p => (List.range n).all fun j => decide (colSum p j = 1)

theorem sum_take_row {f : Nat → Int} {l : List Int} (hf : ∀ j, j < l.length → f j = l.getD j 0) : ∀ m, m ≤ l.length → (l.take m).sum = ps f m
 | 0, _ => by simp [ps]
 | m + 1, hm => by
  have hlt : m < l.length := by omega
  rw [List.take_add_one, List.getElem?_eq_getElem hlt, List.sum_append, sum_take_row hf m (by omega)]
  simp [ps, hf m hlt, List.getD_eq_getElem?_getD, List.getElem?_eq_getElem hlt]
theorem colSum_take (t : List (List Int)) (j : Nat) : ∀ m, m ≤ t.length → colSum (t.take m) j = ps (fun i => at2 t i j) m
 | 0, _ => by simp [ps, colSum]
 | m + 1, hm => by
  have hlt : m < t.length := by omega
  have ih := colSum_take t j m (by omega)
  unfold colSum at ih ⊢
  rw [List.take_add_one, List.getElem?_eq_getElem hlt, List.map_append, List.sum_append, ih]
  simp [ps, at2, List.getD_eq_getElem?_getD, List.getElem?_eq_getElem hlt]
theorem row_mem {n : Nat} {l : List Int} (hl : l.length = n) (h : ∀ m, m ≤ n → 0 ≤ (l.take m).sum ∧ (l.take m).sum ≤ 1) (hN : l.sum = 1) : l ∈ rowOf n := by
 subst hl
 have h1 : ∀ x ∈ l, x ∈ ([-1, 0, 1] : List Int) := by
  intro x hx
  obtain ⟨i, hi, rfl⟩ := List.getElem_of_mem hx
  have a := h i (by omega)
  have b := h (i + 1) (by omega)
  rw [List.take_add_one, List.getElem?_eq_getElem hi, List.sum_append] at b
  simp at b
  have : l[i] = -1 ∨ l[i] = 0 ∨ l[i] = 1 := by omega
  simpa using this
 have := mem_grow (cands := [-1, 0, 1]) (ok := fun p => decide (0 ≤ p.sum) && decide (p.sum ≤ 1)) h1 (fun m hm => by simpa using h m hm) l.length (Nat.le_refl _)
 rw [List.take_length] at this
 exact List.mem_filter.mpr ⟨this, by simpa using hN⟩
theorem Veil.mem {n : Nat} {t : List (List Int)} (h : Veil n t) : t ∈ veilsOf n := by
 obtain ⟨_, _, hl, hr, hrows, hcols, hrn, hcn⟩ := h
 subst hl
 have h1 : ∀ x ∈ t, x ∈ rowOf t.length := by
  intro x hx
  obtain ⟨i, hi, rfl⟩ := List.getElem_of_mem hx
  have e : t.getD i [] = t[i] := by simp [List.getD_eq_getElem?_getD, List.getElem?_eq_getElem hi]
  have el : t[i].length = t.length := by rw [← e]; exact hr i hi
  have hf : ∀ j, j < t[i].length → at2 t i j = t[i].getD j 0 := fun j _ => by unfold at2; rw [e]
  have hs : ∀ m, m ≤ t.length → (t[i].take m).sum = ps (fun j => at2 t i j) m := fun m hm => sum_take_row hf m (by omega)
  refine row_mem el (fun m hm => by rw [hs m hm]; exact hrows i hi m hm) ?_
  have := hs t.length (Nat.le_refl _)
  rw [hrn i hi, List.take_of_length_le (by omega)] at this
  exact this
 have := mem_grow (cands := rowOf t.length) (ok := okCols t.length) h1 (fun m hm => by
  unfold okCols
  rw [List.all_eq_true]
  intro j hj
  have hj' : j < t.length := List.mem_range.mp hj
  rw [colSum_take t j m hm]
  simpa using hcols j hj' m hm) t.length (Nat.le_refl _)
 rw [List.take_length] at this
 refine List.mem_filter.mpr ⟨this, ?_⟩
 rw [List.all_eq_true]
 intro j hj
 have hj' : j < t.length := List.mem_range.mp hj
 have := colSum_take t j t.length (Nat.le_refl _)
 rw [List.take_length, hcn j hj'] at this
 simpa using this
set_option maxRecDepth 1000000 in
theorem veilsOf1 : veilsOf 1 = veils1 := by decide +kernel
set_option maxRecDepth 1000000 in
theorem veilsOf2 : veilsOf 2 = veils2 := by decide +kernel
set_option maxRecDepth 1000000 in
theorem veilsOf3 : veilsOf 3 = veils3 := by decide +kernel
set_option maxRecDepth 1000000 in
theorem veilsOf4 : veilsOf 4 = veils4 := by decide +kernel
set_option maxRecDepth 1000000 in
theorem veilsOf5 : veilsOf 5 = veils5 := by decide +kernel
end Go.Proofs.Ytdinepghommchaa.V

/- The specification's IsVeil always answers, and where it answers true the table is a veil. -/
namespace Go.Proofs.Ytdinepghommchaa.V
open Go.RowKit Go.Proofs.YtdinepghommchaaW.PrintWords Go.Proofs.YtdinepghommchaaW.PrintLast Go.Proofs.YtdinepghommchaaW.PrintMore
theorem wr (n : Int) (h : -1000 ≤ n ∧ n ≤ 1000) : wrap64 n = n := by unfold wrap64; omega
theorem rdL1_cast (t : List (List Int)) (i : Nat) : rd_L1 t (i : Int) = t.getD i [] := by unfold rd_L1; rw [Int.toNat_natCast]
theorem rd_cast (l : List Int) (i : Nat) : rd l (i : Int) = l.getD i 0 := by unfold rd; rw [Int.toNat_natCast]
theorem wr_succ (x : Nat) (h : x ≤ 100) : wrap64 ((x : Int) + 1) = ((x + 1 : Nat) : Int) := by rw [wr _ (by omega)]; omega

theorem isVeil_l1 (t : List (List Int)) (n i : Nat) (hn : n ≤ 20) (hi : i < n) (ht : t.length = n) (hr : (t.getD i []).length = n) : ∀ d k j, j + d = n →
 clocheref09_IsVeil.l1 (k + d + 1) t n i j = some false ∨ ((∀ m, j ≤ m → m < n → -1 ≤ at2 t i m ∧ at2 t i m ≤ 1) ∧ clocheref09_IsVeil.l1 (k + d + 1) t n i j = clocheref09_IsVeil.l0 k t n (i + 1 : Nat))
 | 0, k, j, h => by
  right
  refine ⟨fun m h1 h2 => by omega, ?_⟩
  rw [Nat.add_zero, clocheref09_IsVeil.l1, if_neg (by omega), wr_succ i (by omega)]
 | d + 1, k, j, h => by
  have ih := isVeil_l1 t n i hn hi ht hr d k (j + 1) (by omega)
  rw [show k + (d + 1) + 1 = (k + d + 1) + 1 from rfl, clocheref09_IsVeil.l1, if_pos (by omega), if_pos (by omega), if_pos (by omega), if_pos (by omega), if_pos (by rw [rdL1_cast, hr]; omega), rdL1_cast, rd_cast]
  by_cases c1 : (t.getD i []).getD j 0 < -1
  · left; rw [if_pos c1]
  · rw [if_neg c1]
    by_cases c2 : (t.getD i []).getD j 0 > 1
    · left; rw [if_pos c2]
    · rw [if_neg c2, wr_succ j (by omega)]
      rcases ih with ih | ⟨ih1, ih2⟩
      · left; exact ih
      · right
        refine ⟨fun m h1 h2 => ?_, ih2⟩
        by_cases e : m = j
        · subst e; unfold at2; omega
        · exact ih1 m (by omega) h2

theorem isVeil_l3 (t : List (List Int)) (n i : Nat) (hn : n ≤ 20) (hi : i < n) (ht : t.length = n) (hr : ∀ i, i < n → (t.getD i []).length = n) (hb : ∀ i, i < n → ∀ j, j < n → -1 ≤ at2 t i j ∧ at2 t i j ≤ 1) : ∀ d k j, j + d = n →
 0 ≤ ps (fun j => at2 t i j) j ∧ ps (fun j => at2 t i j) j ≤ 1 → 0 ≤ ps (fun j => at2 t j i) j ∧ ps (fun j => at2 t j i) j ≤ 1 →
 clocheref09_IsVeil.l3 (k + d + 1) t n i (ps (fun j => at2 t i j) j) (ps (fun j => at2 t j i) j) j = some false ∨
 ((∀ m, j ≤ m → m ≤ n → (0 ≤ ps (fun j => at2 t i j) m ∧ ps (fun j => at2 t i j) m ≤ 1) ∧ 0 ≤ ps (fun j => at2 t j i) m ∧ ps (fun j => at2 t j i) m ≤ 1) ∧ ps (fun j => at2 t i j) n = 1 ∧ ps (fun j => at2 t j i) n = 1 ∧
  clocheref09_IsVeil.l3 (k + d + 1) t n i (ps (fun j => at2 t i j) j) (ps (fun j => at2 t j i) j) j = clocheref09_IsVeil.l2 k t n (i + 1 : Nat))
 | 0, k, j, h, h1, h2 => by
  obtain rfl : j = n := by omega
  rw [Nat.add_zero, clocheref09_IsVeil.l3, if_neg (by omega)]
  by_cases c1 : ps (fun j => at2 t i j) j = 1
  · rw [if_pos c1]
    by_cases c2 : ps (fun j => at2 t j i) j = 1
    · rw [if_pos c2, wr_succ i (by omega)]
      right
      refine ⟨fun m a b => ?_, c1, c2, rfl⟩
      obtain rfl : m = j := by omega
      exact ⟨h1, h2⟩
    · left; rw [if_neg c2]
  · left; rw [if_neg c1]
 | d + 1, k, j, h, h1, h2 => by
  have b1 := hb i hi j (by omega)
  have b2 := hb j (by omega) i hi
  have e1 : wrap64 (ps (fun j => at2 t i j) j + (t.getD i []).getD j 0) = ps (fun j => at2 t i j) (j + 1) := by
    rw [wr _ (by unfold at2 at b1; omega)]; rfl
  have e2 : wrap64 (ps (fun j => at2 t j i) j + (t.getD j []).getD i 0) = ps (fun j => at2 t j i) (j + 1) := by
    rw [wr _ (by unfold at2 at b2; omega)]; rfl
  rw [show k + (d + 1) + 1 = (k + d + 1) + 1 from rfl, clocheref09_IsVeil.l3, if_pos (by omega), if_pos (by omega), if_pos (by omega), if_pos (by omega), if_pos (by rw [rdL1_cast, hr i hi]; omega), if_pos (by omega), if_pos (by rw [rdL1_cast, hr j (by omega)]; omega), rdL1_cast, rdL1_cast, rd_cast, rd_cast, e1, e2]
  by_cases c1 : ps (fun j => at2 t i j) (j + 1) < 0
  · left; rw [if_pos c1]
  rw [if_neg c1]
  by_cases c2 : ps (fun j => at2 t i j) (j + 1) > 1
  · left; rw [if_pos c2]
  rw [if_neg c2]
  by_cases c3 : ps (fun j => at2 t j i) (j + 1) < 0
  · left; rw [if_pos c3]
  rw [if_neg c3]
  by_cases c4 : ps (fun j => at2 t j i) (j + 1) > 1
  · left; rw [if_pos c4]
  rw [if_neg c4, wr_succ j (by omega)]
  rcases isVeil_l3 t n i hn hi ht hr hb d k (j + 1) (by omega) ⟨by omega, by omega⟩ ⟨by omega, by omega⟩ with ih | ⟨ih1, ih2, ih3, ih4⟩
  · left; exact ih
  · right
    refine ⟨fun m a b => ?_, ih2, ih3, ih4⟩
    by_cases e : m = j
    · subst e; exact ⟨h1, h2⟩
    · exact ih1 m (by omega) b

theorem isVeil_l2 (t : List (List Int)) (n : Nat) (hn : n ≤ 20) (ht : t.length = n) (hr : ∀ i, i < n → (t.getD i []).length = n) (hb : ∀ i, i < n → ∀ j, j < n → -1 ≤ at2 t i j ∧ at2 t i j ≤ 1) : ∀ d k i, i + d = n →
 clocheref09_IsVeil.l2 (k + d * (n + 2) + 1) t n i = some false ∨
 ((∀ m, i ≤ m → m < n → (∀ j, j ≤ n → (0 ≤ ps (fun j => at2 t m j) j ∧ ps (fun j => at2 t m j) j ≤ 1) ∧ 0 ≤ ps (fun j => at2 t j m) j ∧ ps (fun j => at2 t j m) j ≤ 1) ∧ ps (fun j => at2 t m j) n = 1 ∧ ps (fun j => at2 t j m) n = 1) ∧
  clocheref09_IsVeil.l2 (k + d * (n + 2) + 1) t n i = some true)
 | 0, k, i, h => by
  right
  refine ⟨fun m a b => by omega, ?_⟩
  rw [clocheref09_IsVeil.l2, if_neg (by omega)]
 | d + 1, k, i, h => by
  rw [show k + (d + 1) * (n + 2) + 1 = (k + d * (n + 2) + 1 + n + 1) + 1 by rw [Nat.succ_mul]; omega, clocheref09_IsVeil.l2, if_pos (by omega)]
  have h3 := isVeil_l3 t n i hn (by omega) ht hr hb n (k + d * (n + 2) + 1) 0 (by omega) ⟨by simp [ps], by simp [ps]⟩ ⟨by simp [ps], by simp [ps]⟩
  rw [show ps (fun j => at2 t i j) 0 = 0 from rfl, show ps (fun j => at2 t j i) 0 = 0 from rfl] at h3
  rcases h3 with h3 | ⟨h31, h32, h33, h34⟩
  · left; exact h3
  · rw [show ((0 : Nat) : Int) = 0 from rfl] at h34
    rw [h34]
    rcases isVeil_l2 t n hn ht hr hb d k (i + 1) (by omega) with ih | ⟨ih1, ih2⟩
    · left; exact ih
    · right
      refine ⟨fun m a b => ?_, ih2⟩
      by_cases e : m = i
      · subst e; exact ⟨fun j hj => h31 j (by omega) hj, h32, h33⟩
      · exact ih1 m (by omega) b

theorem isVeil_l0 (t : List (List Int)) (n : Nat) (hn : n ≤ 20) (ht : t.length = n) : ∀ d k i, i + d = n →
 clocheref09_IsVeil.l0 (k + d * (n + 2) + 1) t n i = some false ∨
 ((∀ m, i ≤ m → m < n → (t.getD m []).length = n ∧ ∀ j, j < n → -1 ≤ at2 t m j ∧ at2 t m j ≤ 1) ∧
  clocheref09_IsVeil.l0 (k + d * (n + 2) + 1) t n i = clocheref09_IsVeil.l2 k t n 0)
 | 0, k, i, h => by
  right
  refine ⟨fun m a b => by omega, ?_⟩
  rw [show k + 0 * (n + 2) + 1 = k + 1 by omega, clocheref09_IsVeil.l0, if_neg (by omega)]
 | d + 1, k, i, h => by
  rw [show k + (d + 1) * (n + 2) + 1 = (k + d * (n + 2) + 1 + n + 1) + 1 by rw [Nat.succ_mul]; omega, clocheref09_IsVeil.l0, if_pos (by omega), if_pos (by omega), if_pos (by omega), rdL1_cast]
  by_cases c : (((t.getD i []).length : Nat) : Int) = (n : Int)
  · rw [if_pos c]
    have c' : (t.getD i []).length = n := by omega
    rcases isVeil_l1 t n i hn (by omega) ht c' n (k + d * (n + 2) + 1) 0 (by omega) with h1 | ⟨h1, h2⟩
    · left; exact h1
    · rw [show ((0 : Nat) : Int) = 0 from rfl] at h2
      rw [h2]
      rcases isVeil_l0 t n hn ht d k (i + 1) (by omega) with ih | ⟨ih1, ih2⟩
      · left; exact ih
      · right
        refine ⟨fun m a b => ?_, ih2⟩
        by_cases e : m = i
        · subst e; exact ⟨c', fun j hj => h1 j (by omega) hj⟩
        · exact ih1 m (by omega) b
  · left; rw [if_neg c]

theorem isVeil_spec (t : List (List Int)) : clocheref09_IsVeil.f 100 t = some false ∨ (clocheref09_IsVeil.f 100 t = some true ∧ Veil t.length t) := by
 unfold clocheref09_IsVeil.f
 by_cases c1 : (t.length : Int) < 1
 · left; rw [if_pos c1, clocheref09_IsVeil.j0, if_pos rfl]
 rw [if_neg c1]
 by_cases c2 : (t.length : Int) > 5
 · left; rw [decide_eq_true c2, clocheref09_IsVeil.j0, if_pos rfl]
 rw [decide_eq_false c2, clocheref09_IsVeil.j0, if_neg (by decide)]
 obtain ⟨n, hn⟩ : ∃ n, n = t.length := ⟨_, rfl⟩
 rw [← hn] at c1 c2 ⊢
 have h5 : n ≤ 5 := by omega
 have h7 : n * (n + 2) ≤ 5 * 7 := Nat.mul_le_mul h5 (by omega)
 rcases isVeil_l0 t n (by omega) hn.symm n (98 - n * (n + 2)) 0 (by omega) with h0 | ⟨h0, e0⟩
 · left; rw [show 98 - n * (n + 2) + n * (n + 2) + 1 = 99 by omega] at h0; exact h0
 rw [show 98 - n * (n + 2) + n * (n + 2) + 1 = 99 by omega, show ((0 : Nat) : Int) = 0 from rfl] at e0
 rw [e0]
 rcases isVeil_l2 t n (by omega) hn.symm (fun i hi => (h0 i (by omega) hi).1) (fun i hi => (h0 i (by omega) hi).2) n (98 - n * (n + 2) - n * (n + 2) - 1) 0 (by omega) with h2 | ⟨h2, e2⟩
 · left; rw [show 98 - n * (n + 2) - n * (n + 2) - 1 + n * (n + 2) + 1 = 98 - n * (n + 2) by omega] at h2; exact h2
 rw [show 98 - n * (n + 2) - n * (n + 2) - 1 + n * (n + 2) + 1 = 98 - n * (n + 2) by omega] at e2
 right
 exact ⟨e2, by omega, h5, hn.symm, fun i hi => (h0 i (by omega) hi).1, fun i hi m hm => ((h2 i (by omega) hi).1 m hm).1, fun i hi m hm => ((h2 i (by omega) hi).1 m hm).2, fun i hi => (h2 i (by omega) hi).2.1, fun i hi => (h2 i (by omega) hi).2.2⟩

/-- All veils. -/
def veilsAll : List (List (List Int)) := veils1 ++ veils2 ++ veils3 ++ veils4 ++ veils5
/-- What is true of all listed veils is true of all tables that are veils. -/
theorem of_veil {P : List (List Int) → Bool} (hP : veilsAll.all P = true) {t : List (List Int)} (h : Veil t.length t) : P t = true := by
 have hm := h.mem
 have a := List.all_eq_true.mp hP
 refine a t ?_
 have h1 := h.n1
 have h5 := h.n5
 generalize t.length = n at hm h1 h5
 have hn : n = 1 ∨ n = 2 ∨ n = 3 ∨ n = 4 ∨ n = 5 := by omega
 unfold veilsAll
 simp only [List.mem_append]
 rcases hn with rfl | rfl | rfl | rfl | rfl
 · rw [veilsOf1] at hm; simp [hm]
 · rw [veilsOf2] at hm; simp [hm]
 · rw [veilsOf3] at hm; simp [hm]
 · rw [veilsOf4] at hm; simp [hm]
 · rw [veilsOf5] at hm; simp [hm]
end Go.Proofs.Ytdinepghommchaa.V

/- The search of all veils is a fold over the list of the veils that it finds. -/
namespace Go.Proofs.Ytdinepghommchaa.V
open Go.RowKit Go.Proofs.YtdinepghommchaaW.PrintWords Go.Proofs.YtdinepghommchaaW.PrintLast Go.Proofs.YtdinepghommchaaW.PrintMore
/-- What is found is put at the end of a list. -/
def foundL (t : List (List Int)) (out : List (List (List Int))) : Option (List (List (List Int))) := some (out ++ [t])
def foldO {α : Type} (found : List (List Int) → α → Option α) : List (List (List Int)) → α → Option α
 | [], a => some a
 | t :: L, a => (found t a).bind (foldO found L)
theorem foldO_append {α : Type} (found : List (List Int) → α → Option α) : ∀ L M a, foldO found (L ++ M) a = (foldO found L a).bind (foldO found M)
 | [], M, a => rfl
 | t :: L, M, a => by
  simp only [List.cons_append, foldO]
  cases found t a with
  | none => rfl
  | some b => simpa using foldO_append found L M b
/-- What a search with the list tells of the same search with another function. -/
def Tells {α : Type} (found : List (List Int) → α → Option α) (o0 : List (List (List Int)) → Option (VS × List (List (List Int)))) (o : α → Option (VS × α)) : Prop :=
 ∀ out s' out', o0 out = some (s', out') → ∃ L, out' = out ++ L ∧ ∀ a, o a = (foldO found L a).map (fun b => (s', b))
theorem tells_try {α : Type} {found : List (List Int) → α → Option α} {on0 : Nat → VS → List (List (List Int)) → Option (VS × List (List (List Int)))} {on : Nat → VS → α → Option (VS × α)}
 (h : ∀ p s, Tells found (on0 p s) (on p s)) (n p i j : Nat) (x : Int) (s : VS) : Tells found (fun out => tryF on0 n p i j x (s, out)) (fun a => tryF on n p i j x (s, a)) := by
 intro out s' out' e
 unfold tryF at e ⊢
 dsimp only at e ⊢
 by_cases c1 : wrap64 (rd s.rows (i : Int) + x) < 0
 · simp only [if_pos c1] at e ⊢
   simp only [Option.some.injEq, Prod.mk.injEq] at e
   obtain ⟨rfl, rfl⟩ := e
   exact ⟨[], by simp, fun a => rfl⟩
 simp only [if_neg c1] at e ⊢
 by_cases c2 : 1 < wrap64 (rd s.rows (i : Int) + x)
 · simp only [if_pos c2] at e ⊢
   simp only [Option.some.injEq, Prod.mk.injEq] at e
   obtain ⟨rfl, rfl⟩ := e
   exact ⟨[], by simp, fun a => rfl⟩
 simp only [if_neg c2] at e ⊢
 by_cases c3 : wrap64 (rd s.cols (j : Int) + x) < 0
 · simp only [if_pos c3] at e ⊢
   simp only [Option.some.injEq, Prod.mk.injEq] at e
   obtain ⟨rfl, rfl⟩ := e
   exact ⟨[], by simp, fun a => rfl⟩
 simp only [if_neg c3] at e ⊢
 by_cases c4 : 1 < wrap64 (rd s.cols (j : Int) + x)
 · simp only [if_pos c4] at e ⊢
   simp only [Option.some.injEq, Prod.mk.injEq] at e
   obtain ⟨rfl, rfl⟩ := e
   exact ⟨[], by simp, fun a => rfl⟩
 simp only [if_neg c4] at e ⊢
 by_cases c5 : (j : Int) = (n : Int) - 1 ∧ wrap64 (rd s.rows (i : Int) + x) ≠ 1
 · simp only [if_pos c5] at e ⊢
   simp only [Option.some.injEq, Prod.mk.injEq] at e
   obtain ⟨rfl, rfl⟩ := e
   exact ⟨[], by simp, fun a => rfl⟩
 simp only [if_neg c5] at e ⊢
 obtain ⟨⟨s1, out1⟩, e1, e2⟩ := Option.map_eq_some_iff.mp e
 simp only [Prod.mk.injEq] at e2
 obtain ⟨rfl, rfl⟩ := e2
 obtain ⟨L, hL, hf⟩ := h _ _ out s1 out1 e1
 refine ⟨L, hL, fun a => ?_⟩
 rw [hf a]
 cases foldO found L a <;> rfl
theorem tells_rest {α : Type} {found : List (List Int) → α → Option α} {on0 : Nat → VS → List (List (List Int)) → Option (VS × List (List (List Int)))} {on : Nat → VS → α → Option (VS × α)}
 (h : ∀ p s, Tells found (on0 p s) (on p s)) (n p i j : Nat) : ∀ k s, Tells found (fun out => restF on0 n p i j k (s, out)) (fun a => restF on n p i j k (s, a))
 | 0, s => by
   intro out s' out' e
   simp only [restF, Option.some.injEq, Prod.mk.injEq] at e
   obtain ⟨rfl, rfl⟩ := e
   exact ⟨[], by simp, fun a => rfl⟩
 | k + 1, s => by
   intro out s' out' e
   simp only [restF] at e ⊢
   obtain ⟨⟨s1, out1⟩, e1, e2⟩ := Option.bind_eq_some_iff.mp e
   obtain ⟨L, hL, hf⟩ := tells_try h n p i j _ s out s1 out1 e1
   obtain ⟨M, hM, hg⟩ := tells_rest h n p i j k s1 out1 s' out' e2
   refine ⟨L ++ M, by rw [hM, hL, List.append_assoc], fun a => ?_⟩
   have hf' := hf a
   dsimp only at hf'
   rw [hf', foldO_append]
   cases foldO found L a with
   | none => rfl
   | some b => exact hg b
theorem tells_on {α : Type} (n : Nat) (found : List (List Int) → α → Option α) : ∀ k p s, Tells found (onF n foundL k p s) (onF n found k p s)
 | 0, p, s => by
   intro out s' out' e
   simp [onF] at e
 | k + 1, p, s => by
   intro out s' out' e
   simp only [onF] at e ⊢
   by_cases c : p = n * n
   · simp only [if_pos c] at e ⊢
     obtain ⟨m, em, e⟩ := Option.bind_eq_some_iff.mp e
     by_cases c1 : m = 1
     · simp only [if_pos c1, foundL, Option.map_some, Option.some.injEq, Prod.mk.injEq] at e
       obtain ⟨rfl, rfl⟩ := e
       refine ⟨[s.t], rfl, fun a => ?_⟩
       simp only [em, Option.bind_some, if_pos c1, foldO]
       cases found s.t a <;> rfl
     · simp only [if_neg c1, Option.some.injEq, Prod.mk.injEq] at e
       obtain ⟨rfl, rfl⟩ := e
       refine ⟨[], by simp, fun a => ?_⟩
       simp only [em, Option.bind_some, if_neg c1]
       rfl
   · simp only [if_neg c] at e ⊢
     exact tells_rest (fun p s => tells_on n found k p s) n p (p / n) (p % n) 3 s out s' out' e
theorem all_fold {α : Type} {n : Nat} {L : List (List (List Int))} (hL : veils_all.f n foundL [] = some L) (found : List (List Int) → α → Option α) (a : α) : veils_all.f n found a = foldO found L a := by
 unfold veils_all.f at hL ⊢
 obtain ⟨⟨s', out'⟩, e, e2⟩ := Option.map_eq_some_iff.mp hL
 obtain ⟨M, hM, hf⟩ := tells_on n found _ _ _ [] s' out' e
 simp only [List.nil_append] at hM
 dsimp only at e2
 subst hM e2
 rw [hf a]
 cases foldO found _ a <;> rfl
set_option maxRecDepth 1000000 in
theorem found1 : veils_all.f 1 foundL [] = some veils1 := by decide +kernel
set_option maxRecDepth 1000000 in
theorem found2 : veils_all.f 2 foundL [] = some veils2 := by decide +kernel
set_option maxRecDepth 1000000 in
theorem found3 : veils_all.f 3 foundL [] = some veils3 := by decide +kernel
set_option maxRecDepth 1000000 in
theorem found4 : veils_all.f 4 foundL [] = some veils4 := by decide +kernel
set_option maxRecDepth 1000000 in
theorem found5 : veils_all.f 5 foundL [] = some veils5 := by decide +kernel
end Go.Proofs.Ytdinepghommchaa.V

-- Written by a program of this session over the kit's printer: wip/gp.py.
namespace Go.Proofs.Ytdinepghommchaa.V
open Go.RowKit Go.Proofs.YtdinepghommchaaW.PrintWords Go.Proofs.YtdinepghommchaaW.PrintLast Go.Proofs.YtdinepghommchaaW.PrintMore
attribute [local go_sem] max2_int min2_int max_two min_two max_three min_three max_four min_four   -- for this text's walks alone
set_option linter.unusedVariables false
set_option linter.unusedSimpArgs false

/-! ### veils_veil_sum: function 54 -/
mutual
def veils_veil_sum.l0 : Nat → Int → Int → List (List Int) → Int → Int → Option (Int)
 | 0, _, _, _, _, _ => none
 | k + 1, x2, x7, x14, x15, x16 => if x16 < x15 then (if 0 ≤ x16 then (if x16 < (x14.length : Int) then (if 0 ≤ x2 then (if x2 ≤ ((rd_L1 x14 x16).length : Int) then (veils_veil_sum.l1 k x2 x7 x14 x15 x16 ((rd_L1 x14 x16).take (x2 : Int).toNat) (((rd_L1 x14 x16).take (x2 : Int).toNat).length : Int) 0) else (none)) else (none)) else (none)) else (none)) else (some x7)
def veils_veil_sum.l1 : Nat → Int → Int → List (List Int) → Int → Int → List Int → Int → Int → Option (Int)
 | 0, _, _, _, _, _, _, _, _ => none
 | k + 1, x2, x7, x14, x15, x16, x22, x23, x24 => if x24 < x23 then (if 0 ≤ x24 then (if x24 < (x22.length : Int) then (veils_veil_sum.l1 k x2 (wrap64 (x7 + (rd x22 x24))) x14 x15 x16 x22 x23 (wrap64 (x24 + 1))) else (none)) else (none)) else (veils_veil_sum.l0 k x2 x7 x14 x15 (wrap64 (x16 + 1)))
end
def veils_veil_sum.f (k : Nat) (l0 : List (List Int)) (a1 : Int) (a2 : Int) : Option (Int) := if 0 ≤ a1 then (if a1 ≤ (l0.length : Int) then ((some (l0.take (a1 : Int).toNat : List (List Int))).bind fun y135 => (veils_veil_sum.l0 k a2 0 y135 (y135.length : Int) 0)) else (none)) else (none)
theorem veils_veil_sum.mono_l : ∀ k, (∀ y0 y1 y2 y3 y4, LeO (veils_veil_sum.l0 k y0 y1 y2 y3 y4) (veils_veil_sum.l0 (k + 1) y0 y1 y2 y3 y4)) ∧ (∀ y0 y1 y2 y3 y4 y5 y6 y7, LeO (veils_veil_sum.l1 k y0 y1 y2 y3 y4 y5 y6 y7) (veils_veil_sum.l1 (k + 1) y0 y1 y2 y3 y4 y5 y6 y7))
 | 0 => ⟨fun _ _ _ _ _ r h => by simp [veils_veil_sum.l0] at h, fun _ _ _ _ _ _ _ _ r h => by simp [veils_veil_sum.l1] at h⟩
 | k + 1 => by
  obtain ⟨ih0, ih1⟩ := veils_veil_sum.mono_l k
  refine ⟨?_, ?_⟩
  · intro y0 y1 y2 y3 y4
    unfold veils_veil_sum.l0
    repeat' first
    | (with_reducible exact ih0 _ _ _ _ _)
    | (with_reducible exact ih1 _ _ _ _ _ _ _ _)
    | (with_reducible exact LeO.refl _)
    | (with_reducible exact LeO.none _)
    | (with_reducible refine LeO.ite ?_ ?_)
    | (with_reducible refine LeO.bind ?_ (fun _ => ?_))
    | exact ih0 _ _ _ _ _
    | exact ih1 _ _ _ _ _ _ _ _
    | exact LeO.none _
    | refine LeO.ite ?_ ?_
    | refine LeO.bind ?_ (fun _ => ?_)
  · intro y0 y1 y2 y3 y4 y5 y6 y7
    unfold veils_veil_sum.l1
    repeat' first
    | (with_reducible exact ih0 _ _ _ _ _)
    | (with_reducible exact ih1 _ _ _ _ _ _ _ _)
    | (with_reducible exact LeO.refl _)
    | (with_reducible exact LeO.none _)
    | (with_reducible refine LeO.ite ?_ ?_)
    | (with_reducible refine LeO.bind ?_ (fun _ => ?_))
    | exact ih0 _ _ _ _ _
    | exact ih1 _ _ _ _ _ _ _ _
    | exact LeO.none _
    | refine LeO.ite ?_ ?_
    | refine LeO.bind ?_ (fun _ => ?_)
theorem veils_veil_sum.mono : ∀ a0 a1 a2 k, LeO (veils_veil_sum.f k a0 a1 a2) (veils_veil_sum.f (k + 1) a0 a1 a2) := by
 intro a0 a1 a2 k
 obtain ⟨ih0, ih1⟩ := veils_veil_sum.mono_l k
 unfold veils_veil_sum.f
 repeat' first
  | (with_reducible exact ih0 _ _ _ _ _)
  | (with_reducible exact ih1 _ _ _ _ _ _ _ _)
  | (with_reducible exact LeO.refl _)
  | (with_reducible exact LeO.none _)
  | (with_reducible refine LeO.ite ?_ ?_)
  | (with_reducible refine LeO.bind ?_ (fun _ => ?_))
  | exact ih0 _ _ _ _ _
  | exact ih1 _ _ _ _ _ _ _ _
  | exact LeO.none _
  | refine LeO.ite ?_ ?_
  | refine LeO.bind ?_ (fun _ => ?_)
set_option maxHeartbeats 8000000 in
set_option maxRecDepth 100000 in
theorem veils_veil_sum.calls (k : Nat) (A0 : Option Addr) (c0 : Nat) (l0 : List (List Int)) (a1 : Int) (a2 : Int) (r : Int) (w : World) (hr0 : Kd.C (Kd.slice 3 (Kd.int .i64)) w A0 l0.length l0) (hc0 : l0.length ≤ c0) (h : veils_veil_sum.f k l0 a1 a2 = some r) :
 Calls Try.prog 54 #[.slice A0 l0.length c0, .int .i64 a1, .int .i64 a2] w fun e w' => e = .returned (.int .i64 r) ∧ Drawn0 w w' := by
 have HR0 := Aside0.mk hr0
 have HC0 := Aside0.mk hc0
 clear hr0 hc0
 have H : (if 0 ≤ a1 then (if a1 ≤ (l0.length : Int) then ((some (l0.take (a1 : Int).toNat : List (List Int))).bind fun y135 => (veils_veil_sum.l0 k a2 0 y135 (y135.length : Int) 0)) else (none)) else (none)) = some r := h
 clear h
 by_cases c4 : 0 ≤ a1
 · rw [if_pos c4] at H
   have c4b0 := eq_true c4
   have c4b1 : decide (0 ≤ a1) = true := decide_eq_true c4
   clear c4
   by_cases c5 : a1 ≤ (l0.length : Int)
   · rw [if_pos c5] at H
     have c5b0 := eq_true c5
     have c5b1 : decide (a1 ≤ (l0.length : Int)) = true := decide_eq_true c5
     clear c5
     obtain ⟨y135, hy135⟩ : ∃ y_ : List (List Int), y_ = (l0.take (a1 : Int).toNat) := ⟨_, rfl⟩
     replace H : (veils_veil_sum.l0 k a2 0 y135 (y135.length : Int) 0) = some r := by first | (rw [hy135]; with_reducible exact H) | (have H2_ := (Option.bind_some _ _).symm.trans H; rw [hy135]; with_reducible exact H2_) | (have H2_ := (Option.bind_some _ _).symm.trans H; with_reducible exact H2_) | with_reducible exact H | (rw [hy135]; exact H) | exact H
     have Ny135 := Aside0.mk hy135
     clear hy135
     have H' := Aside0.mk H
     clear H
     have q6 : (a1 : Int) ≤ ((l0.length : Int) : Int) := of_decide_eq_true (by first | (with_reducible assumption) | assumption)
     obtain ⟨i06, hi06, _, hsz6, _⟩ := info_parts info28
     have hroom6 : l0.length ≤ c0 := HC0.out
     have hC6 : Kd.C (Kd.slice 3 (Kd.int .i64)) _ A0 l0.length l0 := HR0.out
     have hcut6 := cut_to (P := Try.prog) 49 28 .i64 Try.underlying49 hi06 A0 l0.length c0 a1 (of_decide_eq_true (by first | (with_reducible assumption) | assumption)) q6 hroom6
     have hr6 := Kd.C_take (m := (a1 : Int).toNat) hC6 (by omega)
     have hy6 : y135.length = (a1 : Int).toNat := (by rw [Ny135.out, List.length_take]; omega)
     rw [← Ny135.out] at hr6
     rw [← hy6] at hcut6
     have HR138 := Aside0.mk hr6
     have HC138 := Aside0.mk (show y135.length ≤ c0 from by omega)
     clear hr6 hC6 hroom6 hi06 hsz6
     have KY6 := Aside0.mk hy6
     clear hy6
     replace q6 := eq_true q6
     go_enter Try.func54, Try.ntmps54
     go_wp2
     go_loopg [7, 16] k (fun kq v7 v16 w' => ∃ (x7_1 : Int) (x16_1 : Int), v7 = .int .i64 x7_1 ∧ v16 = .int .i64 x16_1 ∧ Aside0 (veils_veil_sum.l0 kq a2 x7_1 y135 (y135.length : Int) x16_1 = some r) ∧ Aside0 (kq ≤ k) ∧ Drawn0 w w')
     case atStart => exact ⟨(0), (0), (by first | rfl | (simp; done) | (simp [*]; done)), (by first | rfl | (simp; done) | (simp [*]; done)), H', ⟨Nat.le_refl _⟩, by repeat (first | exact Drawn0.refl _ | apply Drawn0.step)⟩
     case round =>
      clear H'
      try clear p2
      try clear c4
      try clear c4b0
      try clear c4b1
      try clear c5
      try clear c5b0
      try clear c5b1
      try clear q6
      try clear q6
      obtain ⟨x7_1, x16_1, rfl, rfl, HA, HK1, ⟨m1, rfl⟩⟩ := hrel
      cases gk with
      | zero => exact absurd HA.out (by simp [veils_veil_sum.l0])
      | succ k1 =>
       have H := HA.out
       clear HA
       simp only [veils_veil_sum.l0] at H
       by_cases c7 : x16_1 < (y135.length : Int)
       · rw [if_pos c7] at H
         have c7b0 : decide (x16_1 < (y135.length : Int)) = true := decide_eq_true c7
         clear c7
         by_cases c8 : 0 ≤ x16_1
         · rw [if_pos c8] at H
           have c8b0 : decide (0 ≤ x16_1) = true := decide_eq_true c8
           clear c8
           by_cases c9 : x16_1 < (y135.length : Int)
           · rw [if_pos c9] at H
             have c9b0 : decide (x16_1 < (y135.length : Int)) = true := decide_eq_true c9
             clear c9
             by_cases c10 : 0 ≤ a2
             · rw [if_pos c10] at H
               have c10b0 := eq_true c10
               have c10b1 : decide (0 ≤ a2) = true := decide_eq_true c10
               clear c10
               by_cases c11 : a2 ≤ ((rd_L1 y135 x16_1).length : Int)
               · rw [if_pos c11] at H
                 have c11b0 := eq_true c11
                 have c11b1 : decide (a2 ≤ ((rd_L1 y135 x16_1).length : Int)) = true := decide_eq_true c11
                 clear c11
                 have H' := Aside0.mk H
                 clear H
                 have p139 : 0 ≤ (x16_1 : Int) := of_decide_eq_true (by first | (with_reducible assumption) | assumption)
                 have q139 : x16_1 < (y135.length : Int) := of_decide_eq_true (by first | (with_reducible assumption) | assumption)
                 obtain ⟨ad139, A139_0, c139_0, e139, hx139_0, hl139_0, hi139_0⟩ := at_L1 HR138.out x16_1 p139 q139
                 cases e139
                 have HR139_0 := Aside0.mk hi139_0
                 have HC139_0 := Aside0.mk hl139_0
                 clear hi139_0 hl139_0
                 replace p139 := eq_true p139
                 replace q139 := eq_true q139
                 obtain ⟨i012, hi012, _, hsz12, _⟩ := info_parts info3
                 obtain ⟨hcut12, hA12, hC12⟩ := print_take_of (P := Try.prog) (Value.int .i64) 0 28 3 .i64 Try.underlying28 hi012 hsz12 A139_0 c139_0 (rd_L1 y135 x16_1) a2 (of_decide_eq_true (by first | (with_reducible assumption) | assumption)) (of_decide_eq_true (by first | (with_reducible assumption) | assumption)) HC139_0.out
                 have hr140 := (Kd.C_of_reads (h1 := fun _ => rfl) (hA12 _ (Kd.reads_of_C HR139_0.out)))
                 clear hA12 hi012 hsz12
                 replace H' := H'.out
                 obtain ⟨y140, hy140⟩ : ∃ y_ : List Int, y_ = ((rd_L1 y135 x16_1).take (a2 : Int).toNat) := ⟨_, rfl⟩
                 have ly140 : (a2 : Int).toNat = y140.length := by
                  have h1_ := of_decide_eq_true c11b1
                  have h2_ := of_decide_eq_true c10b1
                  rw [hy140, List.length_take]; omega
                 rw [← hy140] at hr140 H' hC12
                 try rw [← hy140] at hcut12
                 try rw [ly140] at hcut12
                 have HR140 := Aside0.mk hr140
                 have HC140 := Aside0.mk hC12
                 replace H' := Aside0.mk H'
                 clear hr140 hC12 ly140 hy140
                 go_wp2
                 go_loopg [7, 24] k1 (fun kq v7 v24 w' => ∃ (x7_2 : Int) (x24_2 : Int), v7 = .int .i64 x7_2 ∧ v24 = .int .i64 x24_2 ∧ Aside0 (veils_veil_sum.l1 kq a2 x7_2 y135 (y135.length : Int) x16_1 y140 (y140.length : Int) x24_2 = some r) ∧ Aside0 (kq ≤ k1) ∧ Drawn0 w w')
                 case atStart => exact ⟨(x7_1), (0), (by first | rfl | (simp; done) | (simp [*]; done)), (by first | rfl | (simp; done) | (simp [*]; done)), H', ⟨Nat.le_refl _⟩, by repeat (first | exact Drawn0.refl _ | apply Drawn0.step)⟩
                 case round =>
                  clear H'
                  try clear c1
                  try clear p1
                  try clear q1
                  try clear hx1
                  try clear p2
                  try clear c4
                  try clear c4b0
                  try clear c4b1
                  try clear c5
                  try clear c5b0
                  try clear c5b1
                  try clear q6
                  try clear c7
                  try clear c7b0
                  try clear c8
                  try clear c8b0
                  try clear c9
                  try clear c9b0
                  try clear c10
                  try clear c10b0
                  try clear c10b1
                  try clear c11
                  try clear c11b0
                  try clear c11b1
                  try clear hx139_0
                  try clear p139
                  try clear p2
                  try clear q139
                  try clear q6
                  obtain ⟨x7_2, x24_2, rfl, rfl, HA, HK2, ⟨m2, rfl⟩⟩ := hrel
                  cases gk with
                  | zero => exact absurd HA.out (by simp [veils_veil_sum.l1])
                  | succ k2 =>
                   have H := HA.out
                   clear HA
                   simp only [veils_veil_sum.l1] at H
                   by_cases c13 : x24_2 < (y140.length : Int)
                   · rw [if_pos c13] at H
                     have c13b0 : decide (x24_2 < (y140.length : Int)) = true := decide_eq_true c13
                     clear c13
                     by_cases c14 : 0 ≤ x24_2
                     · rw [if_pos c14] at H
                       have c14b0 : decide (0 ≤ x24_2) = true := decide_eq_true c14
                       clear c14
                       by_cases c15 : x24_2 < (y140.length : Int)
                       · rw [if_pos c15] at H
                         have c15b0 : decide (x24_2 < (y140.length : Int)) = true := decide_eq_true c15
                         clear c15
                         have H' := Aside0.mk H
                         clear H
                         have p141 : 0 ≤ (x24_2 : Int) := of_decide_eq_true (by first | (with_reducible assumption) | assumption)
                         have q141 : x24_2 < (y140.length : Int) := of_decide_eq_true (by first | (with_reducible assumption) | assumption)
                         obtain ⟨ad141, e141, hx141_0⟩ := Kd.at_int HR140.out x24_2 p141 q141
                         cases e141
                         replace p141 := eq_true p141
                         replace q141 := eq_true q141
                         go_wp2
                         go_roundg k2
                         case measure => have := HK1.out; have := HK2.out; omega
                         case rel => exact ⟨(wrap64 (x7_2 + (rd y140 x24_2))), (wrap64 (x24_2 + 1)), (by first | rfl | (simp; done) | (simp [*]; done)), (by first | rfl | (simp; done) | (simp [*]; done)), H', ⟨by have := HK1.out; have := HK2.out; omega⟩, by repeat (first | exact Drawn0.refl _ | apply Drawn0.step)⟩
                       · rw [if_neg c15] at H
                         exact absurd H (by simp)
                     · rw [if_neg c14] at H
                       exact absurd H (by simp)
                   · rw [if_neg c13] at H
                     have c13b0 : decide (x24_2 < (y140.length : Int)) = false := decide_eq_false c13
                     clear c13
                     have H' := Aside0.mk H
                     clear H
                     go_wp2
                     go_roundg k2
                     case measure => have := HK1.out; have := HK2.out; omega
                     case rel => exact ⟨(x7_2), (wrap64 (x16_1 + 1)), (by first | rfl | (simp; done) | (simp [*]; done)), (by first | rfl | (simp; done) | (simp [*]; done)), H', ⟨by have := HK1.out; have := HK2.out; omega⟩, by repeat (first | exact Drawn0.refl _ | apply Drawn0.step)⟩
               · rw [if_neg c11] at H
                 exact absurd H (by simp)
             · rw [if_neg c10] at H
               exact absurd H (by simp)
           · rw [if_neg c9] at H
             exact absurd H (by simp)
         · rw [if_neg c8] at H
           exact absurd H (by simp)
       · rw [if_neg c7] at H
         have c7b0 : decide (x16_1 < (y135.length : Int)) = false := decide_eq_false c7
         clear c7
         obtain rfl := Option.some.inj H
         go_wp2
         go_ret
         exact ⟨by first | rfl | (simp; done) | (simp [*]; done), by repeat (first | exact Drawn0.refl _ | apply Drawn0.step)⟩
   · rw [if_neg c5] at H
     exact absurd H (by simp)
 · rw [if_neg c4] at H
   exact absurd H (by simp)

end Go.Proofs.Ytdinepghommchaa.V

-- Written by a program of this session over the kit's printer: wip/gp.py.
namespace Go.Proofs.Ytdinepghommchaa.V
open Go.RowKit Go.Proofs.YtdinepghommchaaW.PrintWords Go.Proofs.YtdinepghommchaaW.PrintLast Go.Proofs.YtdinepghommchaaW.PrintMore
attribute [local go_sem] max2_int min2_int max_two min_two max_three min_three max_four min_four   -- for this text's walks alone
set_option linter.unusedVariables false
set_option linter.unusedSimpArgs false

/-! ### veils_veil_size: function 98 -/
def veils_veil_size.f (l0 : List (List Int)) : Option (Int) := some (l0.length : Int)
set_option maxHeartbeats 8000000 in
set_option maxRecDepth 100000 in
theorem veils_veil_size.calls (A0 : Option Addr) (c0 : Nat) (l0 : List (List Int)) (r : Int) (w : World) (hr0 : Kd.C (Kd.slice 3 (Kd.int .i64)) w A0 l0.length l0) (hc0 : l0.length ≤ c0) (h : veils_veil_size.f l0 = some r) :
 Calls Try.prog 98 #[.slice A0 l0.length c0] w fun e w' => e = .returned (.int .i64 r) ∧ Drawn0 w w' := by
 have HR0 := Aside0.mk hr0
 have HC0 := Aside0.mk hc0
 clear hr0 hc0
 have H : (some (l0.length : Int)) = some r := h
 clear h
 obtain rfl := Option.some.inj H
 go_enter Try.func98, Try.ntmps98
 go_wp2
 go_ret
 exact ⟨by first | rfl | (simp; done) | (simp [*]; done), by repeat (first | exact Drawn0.refl _ | apply Drawn0.step)⟩

end Go.Proofs.Ytdinepghommchaa.V

/- The walks of raised's closure and of raised over a veil: the heights of a veil. -/
namespace Go.Proofs.Ytdinepghommchaa.V
open Go.RowKit Go.Proofs.YtdinepghommchaaW.PrintWords Go.Proofs.YtdinepghommchaaW.PrintLast Go.Proofs.YtdinepghommchaaW.PrintMore
set_option linter.unusedVariables false
set_option linter.unusedSimpArgs false

def veils_raised1.f (l : List (List Int)) (i j : Int) : Option Int := (veils_veil_sum.f 1000 l i j).bind fun s => some (wrap64 (wrap64 (i + j) - wrap64 (2 * s)))

set_option maxHeartbeats 400000 in
set_option maxRecDepth 100000 in
theorem veils_raised1.calls (l : List (List Int)) (A : Option Addr) (c b : Nat) (i j x : Int) (w : World) (hb : Aside0 (w.heap[b]? = some (.cells #[.iface 49 (.slice A l.length c)] 68 (0, 0))))
 (hr : Aside0 (Kd.C (Kd.slice 3 (Kd.int .i64)) w A l.length l)) (hc : Aside0 (l.length ≤ c)) (h : veils_raised1.f l i j = some x) :
 Calls Try.prog 64 #[.int .i64 i, .int .i64 j, .pointer (some ⟨b, 0, none⟩)] w fun e w' => e = .returned (.int .i64 x) ∧ Below w.heap.size w w' := by
 unfold veils_raised1.f at h
 obtain ⟨s, hs, hx⟩ := Option.bind_eq_some_iff.mp h
 have HS := Aside0.mk hs
 obtain rfl := Option.some.inj hx
 clear h hs hx
 have hcell : w.cell? ⟨b, 0, none⟩ = some (.iface 49 (.slice A l.length c)) := (blk_cell hb.out 0).trans rfl
 have hm := H.m_veil_sum A l.length c
 go_enter Try.func64, Try.ntmps64
 go_wp2_with (go_at_call 54; refine (veils_veil_sum.calls 1000 A c l i j s _ hr.out hc.out HS.out).mono ?_; rintro e w' ⟨rfl, ⟨nd, rfl⟩⟩)
 go_ret
 exact ⟨rfl, pw_below_drewN (Below.refl _ _) _⟩

def veils_raised.f (l : List (List Int)) : Option (List (List Int)) := veils_made_int.f (veils_raised1.f l) 1000 (wrap64 ((l.length : Int) + 1))

set_option maxHeartbeats 400000 in
set_option maxRecDepth 100000 in
theorem veils_raised.calls (A0 : Option Addr) (c0 : Nat) (l0 : List (List Int)) (r : List (List Int)) (w : World) (hr0 : Kd.C (Kd.slice 3 (Kd.int .i64)) w A0 l0.length l0) (hc0 : l0.length ≤ c0) (h : veils_raised.f l0 = some r) :
 Calls Try.prog 49 #[.iface 49 (.slice A0 l0.length c0)] w fun e w' => ∃ v0_ : Value, e = .returned (v0_) ∧ Kd.S (Kd.slice 3 (Kd.int .i64)) 28 w' w.heap.size (fun _ => True) v0_ r ∧ Below w.heap.size w w' := by
 have HR := Aside0.mk hr0
 have HC := Aside0.mk hc0
 have HH := Aside0.mk h
 clear hr0 hc0 h
 have hm := H.m_veil_size A0 l0.length c0
 have hmf : ∀ (fn : Fn) (first cap : Array Value) (w : World), (Instr.makeFunc fn first cap).run Try.prog w = .ok (.func fn first cap) w := fun _ _ _ _ => rfl
 have hcell : (w.alloc (.cells #[.iface 49 (.slice A0 l0.length c0)] 68)).cell? ⟨w.heap.size, 0, none⟩ = some (.iface 49 (.slice A0 l0.length c0)) := by
  rw [World.cell?_alloc_at _ _ _ _ rfl]; rfl
 go_enter Try.func49, Try.ntmps49
 go_wp2_with (first | (go_at_call 98; refine (veils_veil_size.calls A0 c0 l0 _ _ ?s1 HC.out rfl).mono ?_; (case s1 => exact Kd.C_below HR.out (below_alloc (Below.refl _ _) _)); rintro e w' ⟨rfl, ⟨nd, rfl⟩⟩) | (go_at_call 59; refine (veils_made_int.calls (veils_raised1.f l0) Try.func64 (by kernel_rfl) rfl #[.pointer (some ⟨w.heap.size, 0, none⟩)] 1000 (wrap64 ((l0.length : Int) + 1)) r _ ?g1 HH.out).mono ?_; rotate_left; (rintro e w' ⟨v0, rfl, ho, hb⟩)))
 · go_ret
   exact ⟨v0, rfl, Kd.S_lower ho (below_size (pw_below_drewN (below_alloc (Below.refl _ _) _) _)), below_step (pw_below_drewN (below_alloc (Below.refl _ _) _) _) hb⟩
 case g1 =>
   refine ⟨fun i j x W hB hx => ?_⟩
   refine veils_raised1.calls l0 A0 c0 w.heap.size i j x W ⟨?_⟩ ⟨Kd.C_below (Kd.C_below HR.out (pw_below_drewN (below_alloc (Below.refl _ _) _) _)) hB⟩ HC hx
   exact (hB.block _ (by simp)).trans (by simpa using heap_alloc_new w _)
end Go.Proofs.Ytdinepghommchaa.V

-- Written by a program of this session over the kit's printer: wip/gp.py.
namespace Go.Proofs.Ytdinepghommchaa.V
open Go.RowKit Go.Proofs.YtdinepghommchaaW.PrintWords Go.Proofs.YtdinepghommchaaW.PrintLast Go.Proofs.YtdinepghommchaaW.PrintMore
attribute [local go_sem] max2_int min2_int max_two min_two max_three min_three max_four min_four   -- for this text's walks alone
set_option linter.unusedVariables false
set_option linter.unusedSimpArgs false

/-! ### veils_alternates: function 70 -/
def veils_alternates.l0 : Nat → Int → List Int → Int → Int → Option (Bool)
 | 0, _, _, _, _ => none
 | k + 1, x3, x6, x7, x8 => if x8 < x7 then (if 0 ≤ x8 then (if x8 < (x6.length : Int) then (if (rd x6 x8) < (-1) then (some false) else (if (rd x6 x8) > 1 then (some false) else (if (wrap64 (x3 + (rd x6 x8))) < 0 then (some false) else (if (wrap64 (x3 + (rd x6 x8))) > 1 then (some false) else (veils_alternates.l0 k (wrap64 (x3 + (rd x6 x8))) x6 x7 (wrap64 (x8 + 1))))))) else (none)) else (none)) else (some (x3 == 1))
def veils_alternates.f (k : Nat) (l0 : List Int) : Option (Bool) := veils_alternates.l0 k 0 l0 (l0.length : Int) 0
theorem veils_alternates.mono_l : ∀ k, (∀ y0 y1 y2 y3, LeO (veils_alternates.l0 k y0 y1 y2 y3) (veils_alternates.l0 (k + 1) y0 y1 y2 y3))
 | 0 => fun _ _ _ _ r h => by simp [veils_alternates.l0] at h
 | k + 1 => by
  have ih0 := veils_alternates.mono_l k
  · intro y0 y1 y2 y3
    unfold veils_alternates.l0
    repeat' first
    | (with_reducible exact ih0 _ _ _ _)
    | (with_reducible exact LeO.refl _)
    | (with_reducible exact LeO.none _)
    | (with_reducible refine LeO.ite ?_ ?_)
    | (with_reducible refine LeO.bind ?_ (fun _ => ?_))
    | exact ih0 _ _ _ _
    | exact LeO.none _
    | refine LeO.ite ?_ ?_
    | refine LeO.bind ?_ (fun _ => ?_)
theorem veils_alternates.mono : ∀ a0 k, LeO (veils_alternates.f k a0) (veils_alternates.f (k + 1) a0) := by
 intro a0 k
 have ih0 := veils_alternates.mono_l k
 unfold veils_alternates.f
 repeat' first
  | (with_reducible exact ih0 _ _ _ _)
  | (with_reducible exact LeO.refl _)
  | (with_reducible exact LeO.none _)
  | (with_reducible refine LeO.ite ?_ ?_)
  | (with_reducible refine LeO.bind ?_ (fun _ => ?_))
  | exact ih0 _ _ _ _
  | exact LeO.none _
  | refine LeO.ite ?_ ?_
  | refine LeO.bind ?_ (fun _ => ?_)
set_option maxHeartbeats 8000000 in
set_option maxRecDepth 100000 in
theorem veils_alternates.calls (k : Nat) (A0 : Option Addr) (c0 : Nat) (l0 : List Int) (r : Bool) (w : World) (hr0 : Kd.C (Kd.int .i64) w A0 l0.length l0) (hc0 : l0.length ≤ c0) (h : veils_alternates.f k l0 = some r) :
 Calls Try.prog 70 #[.slice A0 l0.length c0] w fun e w' => e = .returned (.bool r) ∧ Drawn0 w w' := by
 have HR0 := Aside0.mk hr0
 have HC0 := Aside0.mk hc0
 clear hr0 hc0
 have H : (veils_alternates.l0 k 0 l0 (l0.length : Int) 0) = some r := h
 clear h
 have H' := Aside0.mk H
 clear H
 go_enter Try.func70, Try.ntmps70
 go_wp2
 go_loopg [3, 8] k (fun kq v3 v8 w' => ∃ (x3_1 : Int) (x8_1 : Int), v3 = .int .i64 x3_1 ∧ v8 = .int .i64 x8_1 ∧ Aside0 (veils_alternates.l0 kq x3_1 l0 (l0.length : Int) x8_1 = some r) ∧ Aside0 (kq ≤ k) ∧ Drawn0 w w')
 case atStart => exact ⟨(0), (0), (by first | rfl | (simp; done) | (simp [*]; done)), (by first | rfl | (simp; done) | (simp [*]; done)), H', ⟨Nat.le_refl _⟩, by repeat (first | exact Drawn0.refl _ | apply Drawn0.step)⟩
 case round =>
  clear H'
  obtain ⟨x3_1, x8_1, rfl, rfl, HA, HK1, ⟨m1, rfl⟩⟩ := hrel
  cases gk with
  | zero => exact absurd HA.out (by simp [veils_alternates.l0])
  | succ k1 =>
    have H := HA.out
    clear HA
    simp only [veils_alternates.l0] at H
    by_cases c2 : x8_1 < (l0.length : Int)
    · rw [if_pos c2] at H
      have c2b0 : decide (x8_1 < (l0.length : Int)) = true := decide_eq_true c2
      clear c2
      by_cases c3 : 0 ≤ x8_1
      · rw [if_pos c3] at H
        have c3b0 : decide (0 ≤ x8_1) = true := decide_eq_true c3
        clear c3
        by_cases c4 : x8_1 < (l0.length : Int)
        · rw [if_pos c4] at H
          have c4b0 : decide (x8_1 < (l0.length : Int)) = true := decide_eq_true c4
          clear c4
          by_cases c5 : (rd l0 x8_1) < (-1)
          · rw [if_pos c5] at H
            have c5b0 : decide ((rd l0 x8_1) < (-1)) = true := decide_eq_true c5
            clear c5
            obtain rfl := Option.some.inj H
            have p127 : 0 ≤ (x8_1 : Int) := of_decide_eq_true (by first | (with_reducible assumption) | assumption)
            have q127 : x8_1 < (l0.length : Int) := of_decide_eq_true (by first | (with_reducible assumption) | assumption)
            obtain ⟨ad127, e127, hx127_0⟩ := Kd.at_int HR0.out x8_1 p127 q127
            cases e127
            replace p127 := eq_true p127
            replace q127 := eq_true q127
            go_wp2
            go_ret
            exact ⟨by first | rfl | (simp; done) | (simp [*]; done), by repeat (first | exact Drawn0.refl _ | apply Drawn0.step)⟩
          · rw [if_neg c5] at H
            have c5b0 : decide ((rd l0 x8_1) < (-1)) = false := decide_eq_false c5
            clear c5
            by_cases c6 : (rd l0 x8_1) > 1
            · rw [if_pos c6] at H
              have c6b0 : decide (1 < (rd l0 x8_1)) = true := decide_eq_true c6
              clear c6
              obtain rfl := Option.some.inj H
              have p127 : 0 ≤ (x8_1 : Int) := of_decide_eq_true (by first | (with_reducible assumption) | assumption)
              have q127 : x8_1 < (l0.length : Int) := of_decide_eq_true (by first | (with_reducible assumption) | assumption)
              obtain ⟨ad127, e127, hx127_0⟩ := Kd.at_int HR0.out x8_1 p127 q127
              cases e127
              replace p127 := eq_true p127
              replace q127 := eq_true q127
              go_wp2
              go_ret
              exact ⟨by first | rfl | (simp; done) | (simp [*]; done), by repeat (first | exact Drawn0.refl _ | apply Drawn0.step)⟩
            · rw [if_neg c6] at H
              have c6b0 : decide (1 < (rd l0 x8_1)) = false := decide_eq_false c6
              clear c6
              by_cases c7 : (wrap64 (x3_1 + (rd l0 x8_1))) < 0
              · rw [if_pos c7] at H
                have c7b0 : decide ((wrap64 (x3_1 + (rd l0 x8_1))) < 0) = true := decide_eq_true c7
                clear c7
                obtain rfl := Option.some.inj H
                have p127 : 0 ≤ (x8_1 : Int) := of_decide_eq_true (by first | (with_reducible assumption) | assumption)
                have q127 : x8_1 < (l0.length : Int) := of_decide_eq_true (by first | (with_reducible assumption) | assumption)
                obtain ⟨ad127, e127, hx127_0⟩ := Kd.at_int HR0.out x8_1 p127 q127
                cases e127
                replace p127 := eq_true p127
                replace q127 := eq_true q127
                go_wp2
                go_ret
                exact ⟨by first | rfl | (simp; done) | (simp [*]; done), by repeat (first | exact Drawn0.refl _ | apply Drawn0.step)⟩
              · rw [if_neg c7] at H
                have c7b0 : decide ((wrap64 (x3_1 + (rd l0 x8_1))) < 0) = false := decide_eq_false c7
                clear c7
                by_cases c8 : (wrap64 (x3_1 + (rd l0 x8_1))) > 1
                · rw [if_pos c8] at H
                  have c8b0 : decide (1 < (wrap64 (x3_1 + (rd l0 x8_1)))) = true := decide_eq_true c8
                  clear c8
                  obtain rfl := Option.some.inj H
                  have p127 : 0 ≤ (x8_1 : Int) := of_decide_eq_true (by first | (with_reducible assumption) | assumption)
                  have q127 : x8_1 < (l0.length : Int) := of_decide_eq_true (by first | (with_reducible assumption) | assumption)
                  obtain ⟨ad127, e127, hx127_0⟩ := Kd.at_int HR0.out x8_1 p127 q127
                  cases e127
                  replace p127 := eq_true p127
                  replace q127 := eq_true q127
                  go_wp2
                  go_ret
                  exact ⟨by first | rfl | (simp; done) | (simp [*]; done), by repeat (first | exact Drawn0.refl _ | apply Drawn0.step)⟩
                · rw [if_neg c8] at H
                  have c8b0 : decide (1 < (wrap64 (x3_1 + (rd l0 x8_1)))) = false := decide_eq_false c8
                  clear c8
                  have H' := Aside0.mk H
                  clear H
                  have p127 : 0 ≤ (x8_1 : Int) := of_decide_eq_true (by first | (with_reducible assumption) | assumption)
                  have q127 : x8_1 < (l0.length : Int) := of_decide_eq_true (by first | (with_reducible assumption) | assumption)
                  obtain ⟨ad127, e127, hx127_0⟩ := Kd.at_int HR0.out x8_1 p127 q127
                  cases e127
                  replace p127 := eq_true p127
                  replace q127 := eq_true q127
                  go_wp2
                  go_roundg k1
                  case measure => have := HK1.out; omega
                  case rel => exact ⟨(wrap64 (x3_1 + (rd l0 x8_1))), (wrap64 (x8_1 + 1)), (by first | rfl | (simp; done) | (simp [*]; done)), (by first | rfl | (simp; done) | (simp [*]; done)), H', ⟨by have := HK1.out; omega⟩, by repeat (first | exact Drawn0.refl _ | apply Drawn0.step)⟩
        · rw [if_neg c4] at H
          exact absurd H (by simp)
      · rw [if_neg c3] at H
        exact absurd H (by simp)
    · rw [if_neg c2] at H
      have c2b0 : decide (x8_1 < (l0.length : Int)) = false := decide_eq_false c2
      clear c2
      obtain rfl := Option.some.inj H
      go_wp2
      go_ret
      exact ⟨by first | rfl | (simp; done) | (simp [*]; done), by repeat (first | exact Drawn0.refl _ | apply Drawn0.step)⟩

end Go.Proofs.Ytdinepghommchaa.V

-- Written by a program of this session over the kit's printer: wip/gp.py.
namespace Go.Proofs.Ytdinepghommchaa.V
open Go.RowKit Go.Proofs.YtdinepghommchaaW.PrintWords Go.Proofs.YtdinepghommchaaW.PrintLast Go.Proofs.YtdinepghommchaaW.PrintMore
attribute [local go_sem] max2_int min2_int max_two min_two max_three min_three max_four min_four   -- for this text's walks alone
set_option linter.unusedVariables false
set_option linter.unusedSimpArgs false

/-! ### slices_IndexFunc_int_int: function 79 -/
def slices_IndexFunc_int_int.l0 (g : List Int → Option Bool) : Nat → List (List Int) → Int → Int → Option (Int)
 | 0, _, _, _ => none
 | k + 1, x0, x7, x8 => if x8 < x7 then (if 0 ≤ x8 then (if x8 < (x0.length : Int) then ((g (rd_L1 x0 x8)).bind fun t102 => (if t102 = true then (some x8) else (slices_IndexFunc_int_int.l0 g k x0 x7 (wrap64 (x8 + 1))))) else (none)) else (none)) else (some (-1))
def slices_IndexFunc_int_int.f (g : List Int → Option Bool) (k : Nat) (l0 : List (List Int)) : Option (Int) := slices_IndexFunc_int_int.l0 g k l0 (l0.length : Int) 0
set_option maxHeartbeats 8000000 in
set_option maxRecDepth 100000 in
theorem slices_IndexFunc_int_int.calls (g : List Int → Option Bool) {fid : FuncId} {fn : Func} (hfn : Try.prog.funcs[fid]? = some fn) (hnm : (fn.name == "runtime.NumGoroutine") = false) (hbd : fn.body.isSome = true) (caps : Array Value) (k : Nat) (A0 : Option Addr) (c0 : Nat) (l0 : List (List Int)) (r : Int) (w : World) (hg_ : Aside0 (∀ (A : Option Addr) (c : Nat) (row : List Int) (x : Bool) (W : World), Drawn0 w W → Kd.C (Kd.int .i64) W A row.length row → row.length ≤ c → g row = some x → Calls Try.prog fid (#[.slice A row.length c] ++ caps) W fun e W' => e = .returned (.bool x) ∧ Drawn0 W W')) (hr0 : Kd.C (Kd.slice 3 (Kd.int .i64)) w A0 l0.length l0) (hc0 : l0.length ≤ c0) (h : slices_IndexFunc_int_int.f g k l0 = some r) :
 Calls Try.prog 79 #[.slice A0 l0.length c0, .func (.func fid) #[] caps] w fun e w' => e = .returned (.int .i64 r) ∧ Drawn0 w w' := by
 have HR0 := Aside0.mk hr0
 have HC0 := Aside0.mk hc0
 clear hr0 hc0
 have H : (slices_IndexFunc_int_int.l0 g k l0 (l0.length : Int) 0) = some r := h
 clear h
 have H' := Aside0.mk H
 clear H
 have hcf : ∀ (args : Array Value) (w : World), (callFunc fid args).run Try.prog w = .ok (.enter fid args) w := enters_ hfn hnm hbd
 go_enter Try.func79, Try.ntmps79
 go_wp2
 go_loopg [8] k (fun kq v8 w' => ∃ (x8_1 : Int), v8 = .int .i64 x8_1 ∧ Aside0 (slices_IndexFunc_int_int.l0 g kq l0 (l0.length : Int) x8_1 = some r) ∧ Aside0 (kq ≤ k) ∧ Drawn0 w w')
 case atStart => exact ⟨(0), (by first | rfl | (simp; done) | (simp [*]; done)), H', ⟨Nat.le_refl _⟩, by repeat (first | exact Drawn0.refl _ | apply Drawn0.step)⟩
 case round =>
  clear H'
  try clear p2
  obtain ⟨x8_1, rfl, HA, HK1, ⟨m1, rfl⟩⟩ := hrel
  cases gk with
  | zero => exact absurd HA.out (by simp [slices_IndexFunc_int_int.l0])
  | succ k1 =>
   have H := HA.out
   clear HA
   simp only [slices_IndexFunc_int_int.l0] at H
   by_cases c3 : x8_1 < (l0.length : Int)
   · rw [if_pos c3] at H
     have c3b0 : decide (x8_1 < (l0.length : Int)) = true := decide_eq_true c3
     clear c3
     by_cases c4 : 0 ≤ x8_1
     · rw [if_pos c4] at H
       have c4b0 : decide (0 ≤ x8_1) = true := decide_eq_true c4
       clear c4
       by_cases c5 : x8_1 < (l0.length : Int)
       · rw [if_pos c5] at H
         have c5b0 : decide (x8_1 < (l0.length : Int)) = true := decide_eq_true c5
         clear c5
         replace H := Option.bind_eq_some_iff.mp H
         obtain ⟨t102, A60, H⟩ := H
         replace H : (if t102 = true then (some x8_1) else (slices_IndexFunc_int_int.l0 g k1 l0 (l0.length : Int) (wrap64 (x8_1 + 1)))) = some r := H
         have A6 := Aside0.mk A60
         clear A60
         by_cases c7 : t102 = true
         · subst c7
           have H1 : (some x8_1) = some r := by rw [if_pos rfl] at H; exact H
           clear H
           have H := H1
           clear H1
           obtain rfl := Option.some.inj H
           have p101 : 0 ≤ (x8_1 : Int) := of_decide_eq_true (by first | (with_reducible assumption) | assumption)
           have q101 : x8_1 < (l0.length : Int) := of_decide_eq_true (by first | (with_reducible assumption) | assumption)
           obtain ⟨ad101, A101_0, c101_0, e101, hx101_0, hl101_0, hi101_0⟩ := at_L1 HR0.out x8_1 p101 q101
           cases e101
           have HR101_0 := Aside0.mk hi101_0
           have HC101_0 := Aside0.mk hl101_0
           clear hi101_0 hl101_0
           replace p101 := eq_true p101
           replace q101 := eq_true q101
           go_wp2_with (first | ((with_reducible refine (hg_.out _ _ (rd_L1 l0 x8_1) true _ ?d1 ?side1 ?side2 A6.out).mono ?_); (case d1 => repeat (first | exact Drawn0.refl _ | apply Drawn0.step)); (case side1 => repeat (first | exact HR101_0.out | (with_reducible refine Kd.C_alloc ?_ _) | (with_reducible refine Kd.C_drewN ?_ _) | (with_reducible refine Kd.C_drew ?_))); (case side2 => exact HC101_0.out); rintro e w' ⟨rfl, ⟨nd, rfl⟩⟩))
           go_ret
           exact ⟨by first | rfl | (simp; done) | (simp [*]; done), by repeat (first | exact Drawn0.refl _ | apply Drawn0.step)⟩
         · replace c7 := Bool.eq_false_iff.mpr c7
           subst c7
           have H1 : (slices_IndexFunc_int_int.l0 g k1 l0 (l0.length : Int) (wrap64 (x8_1 + 1))) = some r := by rw [if_neg (show ¬ (false = true) by decide)] at H; exact H
           clear H
           have H := H1
           clear H1
           have H' := Aside0.mk H
           clear H
           have p101 : 0 ≤ (x8_1 : Int) := of_decide_eq_true (by first | (with_reducible assumption) | assumption)
           have q101 : x8_1 < (l0.length : Int) := of_decide_eq_true (by first | (with_reducible assumption) | assumption)
           obtain ⟨ad101, A101_0, c101_0, e101, hx101_0, hl101_0, hi101_0⟩ := at_L1 HR0.out x8_1 p101 q101
           cases e101
           have HR101_0 := Aside0.mk hi101_0
           have HC101_0 := Aside0.mk hl101_0
           clear hi101_0 hl101_0
           replace p101 := eq_true p101
           replace q101 := eq_true q101
           go_wp2_with (first | ((with_reducible refine (hg_.out _ _ (rd_L1 l0 x8_1) false _ ?d1 ?side1 ?side2 A6.out).mono ?_); (case d1 => repeat (first | exact Drawn0.refl _ | apply Drawn0.step)); (case side1 => repeat (first | exact HR101_0.out | (with_reducible refine Kd.C_alloc ?_ _) | (with_reducible refine Kd.C_drewN ?_ _) | (with_reducible refine Kd.C_drew ?_))); (case side2 => exact HC101_0.out); rintro e w' ⟨rfl, ⟨nd, rfl⟩⟩))
           go_roundg k1
           case measure => have := HK1.out; omega
           case rel => exact ⟨(wrap64 (x8_1 + 1)), (by first | rfl | (simp; done) | (simp [*]; done)), H', ⟨by have := HK1.out; omega⟩, by repeat (first | exact Drawn0.refl _ | apply Drawn0.step)⟩
       · rw [if_neg c5] at H
         exact absurd H (by simp)
     · rw [if_neg c4] at H
       exact absurd H (by simp)
   · rw [if_neg c3] at H
     have c3b0 : decide (x8_1 < (l0.length : Int)) = false := decide_eq_false c3
     clear c3
     obtain rfl := Option.some.inj H
     go_wp2
     go_ret
     exact ⟨by first | rfl | (simp; done) | (simp [*]; done), by repeat (first | exact Drawn0.refl _ | apply Drawn0.step)⟩

end Go.Proofs.Ytdinepghommchaa.V

-- Written by a program of this session over the kit's printer: wip/gp.py.
namespace Go.Proofs.Ytdinepghommchaa.V
open Go.RowKit Go.Proofs.YtdinepghommchaaW.PrintWords Go.Proofs.YtdinepghommchaaW.PrintLast Go.Proofs.YtdinepghommchaaW.PrintMore
attribute [local go_sem] max2_int min2_int max_two min_two max_three min_three max_four min_four   -- for this text's walks alone
set_option linter.unusedVariables false
set_option linter.unusedSimpArgs false

/-! ### slices_ContainsFunc_int_int: function 68 -/
def slices_ContainsFunc_int_int.f (g : List Int → Option Bool) (k : Nat) (l0 : List (List Int)) : Option (Bool) := (slices_IndexFunc_int_int.f g k l0).bind fun t103 => (some (decide (t103 ≥ 0)))
set_option maxHeartbeats 8000000 in
set_option maxRecDepth 100000 in
theorem slices_ContainsFunc_int_int.calls (g : List Int → Option Bool) {fid : FuncId} {fn : Func} (hfn : Try.prog.funcs[fid]? = some fn) (hnm : (fn.name == "runtime.NumGoroutine") = false) (hbd : fn.body.isSome = true) (caps : Array Value) (k : Nat) (A0 : Option Addr) (c0 : Nat) (l0 : List (List Int)) (r : Bool) (w : World) (hg_ : Aside0 (∀ (A : Option Addr) (c : Nat) (row : List Int) (x : Bool) (W : World), Drawn0 w W → Kd.C (Kd.int .i64) W A row.length row → row.length ≤ c → g row = some x → Calls Try.prog fid (#[.slice A row.length c] ++ caps) W fun e W' => e = .returned (.bool x) ∧ Drawn0 W W')) (hr0 : Kd.C (Kd.slice 3 (Kd.int .i64)) w A0 l0.length l0) (hc0 : l0.length ≤ c0) (h : slices_ContainsFunc_int_int.f g k l0 = some r) :
 Calls Try.prog 68 #[.slice A0 l0.length c0, .func (.func fid) #[] caps] w fun e w' => e = .returned (.bool r) ∧ Drawn0 w w' := by
 have HR0 := Aside0.mk hr0
 have HC0 := Aside0.mk hc0
 clear hr0 hc0
 have H : ((slices_IndexFunc_int_int.f g k l0).bind fun t103 => (some (decide (t103 ≥ 0)))) = some r := h
 clear h
 replace H := Option.bind_eq_some_iff.mp H
 obtain ⟨t103, A30, H⟩ := H
 replace H : (some (decide (t103 ≥ 0))) = some r := H
 have A3 := Aside0.mk A30
 clear A30
 obtain rfl := Option.some.inj H
 go_enter Try.func68, Try.ntmps68
 go_wp2_with (first | ((with_reducible refine gate_callee (f := 79) rfl ?_); refine goesL_ (some 7) rfl rfl Try.func79 (by kernel_rfl) rfl #[.slice A0 l0.length c0, .func (.func fid) #[] caps] rfl (by (try simp only [List.map_toArray, List.map_cons, List.map_nil]); first | done | rfl | (simp only [List.length_drop, List.length_take]; rfl)) ?_; (with_reducible refine (slices_IndexFunc_int_int.calls g hfn hnm hbd caps k _ _ l0 t103 _ ⟨fun A c row x W hd => hg_.out A c row x W hd⟩ ?side1 ?side2 A3.out).mono ?_); (case side1 => repeat (first | exact HR0.out | (with_reducible refine Kd.C_alloc ?_ _) | (with_reducible refine Kd.C_drewN ?_ _) | (with_reducible refine Kd.C_drew ?_))); (case side2 => exact HC0.out); rintro e w' ⟨rfl, ⟨nd, rfl⟩⟩; refine ⟨_, rfl, ?_⟩))
 go_ret
 exact ⟨by first | rfl | (simp; done) | (simp [*]; done), by repeat (first | exact Drawn0.refl _ | apply Drawn0.step)⟩

end Go.Proofs.Ytdinepghommchaa.V

/- The walk of read's closure: a row has another length, or does not alternate. -/
namespace Go.Proofs.Ytdinepghommchaa.V
open Go.RowKit Go.Proofs.YtdinepghommchaaW.PrintWords Go.Proofs.YtdinepghommchaaW.PrintLast Go.Proofs.YtdinepghommchaaW.PrintMore
set_option linter.unusedVariables false
set_option linter.unusedSimpArgs false

def veils_read1.f (L : List (List Int)) (row : List Int) : Option Bool := if row.length = L.length then (veils_alternates.f 1000 row).bind fun b => some (!b) else some true

set_option maxHeartbeats 400000 in
set_option maxRecDepth 100000 in
theorem veils_read1.calls (L : List (List Int)) (AL : Option Addr) (cL bx : Nat) (A : Option Addr) (c : Nat) (row : List Int) (x : Bool) (w : World) (hb : Aside0 (w.heap[bx]? = some (.cells #[.slice AL L.length cL] 27 (0, 0))))
 (hr : Aside0 (Kd.C (Kd.int .i64) w A row.length row)) (hc : Aside0 (row.length ≤ c)) (h : veils_read1.f L row = some x) :
 Calls Try.prog 69 #[.slice A row.length c, .pointer (some ⟨bx, 0, none⟩)] w fun e w' => e = .returned (.bool x) ∧ Drawn0 w w' := by
 have hcell : w.cell? ⟨bx, 0, none⟩ = some (.slice AL L.length cL) := (blk_cell hb.out 0).trans rfl
 unfold veils_read1.f at h
 by_cases e : row.length = L.length
 · rw [if_pos e] at h
   obtain ⟨b, hb1, h⟩ := Option.bind_eq_some_iff.mp h
   have S1 := Aside0.mk hb1
   obtain rfl := Option.some.inj h
   have e1 : ((row.length : Int) != (L.length : Int)) = false := by simp [e]
   have e2 : ((row.length : Int) == (L.length : Int)) = true := by simp [e]
   have E := Aside0.mk e
   clear h hb1 e
   go_enter Try.func69, Try.ntmps69
   go_wp2_with (go_at_call 70; (with_reducible refine (veils_alternates.calls 1000 A c row b _ hr.out hc.out S1.out).mono ?_); rintro e w' ⟨rfl, ⟨nd, rfl⟩⟩)
   all_goals go_ret
   all_goals exact ⟨by simp_all, by repeat (first | exact Drawn0.refl _ | apply Drawn0.step)⟩
 · rw [if_neg e] at h
   obtain rfl := Option.some.inj h
   have e1 : ((row.length : Int) != (L.length : Int)) = true := by simp; omega
   have e2 : ((row.length : Int) == (L.length : Int)) = false := by simp; omega
   clear h e
   go_enter Try.func69, Try.ntmps69
   go_wp2
   all_goals go_ret
   all_goals exact ⟨by simp_all, by repeat (first | exact Drawn0.refl _ | apply Drawn0.step)⟩
end Go.Proofs.Ytdinepghommchaa.V

-- Written by a program of this session over the kit's printer: wip/gp.py.
namespace Go.Proofs.Ytdinepghommchaa.V
open Go.RowKit Go.Proofs.YtdinepghommchaaW.PrintWords Go.Proofs.YtdinepghommchaaW.PrintLast Go.Proofs.YtdinepghommchaaW.PrintMore
attribute [local go_sem] max2_int min2_int max_two min_two max_three min_three max_four min_four   -- for this text's walks alone
set_option linter.unusedVariables false
set_option linter.unusedSimpArgs false

/-! ### veils_read: function 51 -/
mutual
def veils_read.j0 : Nat → List (List Int) → Bool → Option ((List (List Int)) × Bool)
 | 0, _, _ => none
 | k + 1, x1, x20 => if x20 = true then (some (([] : List (List Int)), false)) else (veils_read.l0 k x1 (x1.length : Int) 0)
def veils_read.l0 : Nat → List (List Int) → Int → Int → Option ((List (List Int)) × Bool)
 | 0, _, _, _ => none
 | k + 1, x1, x22, x23 => if x23 < x22 then (veils_read.l1 k x1 x23 ([] : List Int) x22 x23 x1 (x1.length : Int) 0) else (some (x1, true))
def veils_read.l1 : Nat → List (List Int) → Int → List Int → Int → Int → List (List Int) → Int → Int → Option ((List (List Int)) × Bool)
 | 0, _, _, _, _, _, _, _, _ => none
 | k + 1, x1, x4, x5, x22, x23, x26, x27, x28 => if x28 < x27 then (if 0 ≤ x28 then (if x28 < (x26.length : Int) then (if 0 ≤ x4 then (if x4 < ((rd_L1 x26 x28).length : Int) then (if x5.length < 17592186044416 then (veils_read.l1 k x1 x4 (x5 ++ [rd (rd_L1 x26 x28) x4]) x22 x23 x26 x27 (wrap64 (x28 + 1))) else (none)) else (none)) else (none)) else (none)) else (none)) else ((veils_alternates.f k x5).bind fun t107 => (if t107 = true then (veils_read.l0 k x1 x22 (wrap64 (x23 + 1))) else (some (([] : List (List Int)), false))))
end
def veils_read.f (k : Nat) (l0 : List (List Int)) : Option ((List (List Int)) × Bool) := if (l0.length : Int) < 1 then (veils_read.j0 k l0 true) else (if (l0.length : Int) > 5 then (veils_read.j0 k l0 true) else ((slices_ContainsFunc_int_int.f (veils_read1.f l0) 1000 l0).bind fun t101 => (veils_read.j0 k l0 t101)))
theorem veils_read.mono_l : ∀ k, (∀ y0 y1, LeO (veils_read.j0 k y0 y1) (veils_read.j0 (k + 1) y0 y1)) ∧ (∀ y0 y1 y2, LeO (veils_read.l0 k y0 y1 y2) (veils_read.l0 (k + 1) y0 y1 y2)) ∧ (∀ y0 y1 y2 y3 y4 y5 y6 y7, LeO (veils_read.l1 k y0 y1 y2 y3 y4 y5 y6 y7) (veils_read.l1 (k + 1) y0 y1 y2 y3 y4 y5 y6 y7))
 | 0 => ⟨fun _ _ r h => by simp [veils_read.j0] at h, fun _ _ _ r h => by simp [veils_read.l0] at h, fun _ _ _ _ _ _ _ _ r h => by simp [veils_read.l1] at h⟩
 | k + 1 => by
  obtain ⟨ih0, ih1, ih2⟩ := veils_read.mono_l k
  refine ⟨?_, ?_, ?_⟩
  · intro y0 y1
    unfold veils_read.j0
    repeat' first
    | (with_reducible exact ih0 _ _)
    | (with_reducible exact ih1 _ _ _)
    | (with_reducible exact ih2 _ _ _ _ _ _ _ _)
    | (with_reducible exact veils_alternates.mono _ _)
    | (with_reducible exact LeO.refl _)
    | (with_reducible exact LeO.none _)
    | (with_reducible refine LeO.ite ?_ ?_)
    | (with_reducible refine LeO.bind ?_ (fun _ => ?_))
    | exact ih0 _ _
    | exact ih1 _ _ _
    | exact ih2 _ _ _ _ _ _ _ _
    | exact veils_alternates.mono _ _
    | exact LeO.none _
    | refine LeO.ite ?_ ?_
    | refine LeO.bind ?_ (fun _ => ?_)
  · intro y0 y1 y2
    unfold veils_read.l0
    repeat' first
    | (with_reducible exact ih0 _ _)
    | (with_reducible exact ih1 _ _ _)
    | (with_reducible exact ih2 _ _ _ _ _ _ _ _)
    | (with_reducible exact veils_alternates.mono _ _)
    | (with_reducible exact LeO.refl _)
    | (with_reducible exact LeO.none _)
    | (with_reducible refine LeO.ite ?_ ?_)
    | (with_reducible refine LeO.bind ?_ (fun _ => ?_))
    | exact ih0 _ _
    | exact ih1 _ _ _
    | exact ih2 _ _ _ _ _ _ _ _
    | exact veils_alternates.mono _ _
    | exact LeO.none _
    | refine LeO.ite ?_ ?_
    | refine LeO.bind ?_ (fun _ => ?_)
  · intro y0 y1 y2 y3 y4 y5 y6 y7
    unfold veils_read.l1
    repeat' first
    | (with_reducible exact ih0 _ _)
    | (with_reducible exact ih1 _ _ _)
    | (with_reducible exact ih2 _ _ _ _ _ _ _ _)
    | (with_reducible exact veils_alternates.mono _ _)
    | (with_reducible exact LeO.refl _)
    | (with_reducible exact LeO.none _)
    | (with_reducible refine LeO.ite ?_ ?_)
    | (with_reducible refine LeO.bind ?_ (fun _ => ?_))
    | exact ih0 _ _
    | exact ih1 _ _ _
    | exact ih2 _ _ _ _ _ _ _ _
    | exact veils_alternates.mono _ _
    | exact LeO.none _
    | refine LeO.ite ?_ ?_
    | refine LeO.bind ?_ (fun _ => ?_)
theorem veils_read.mono : ∀ a0 k, LeO (veils_read.f k a0) (veils_read.f (k + 1) a0) := by
 intro a0 k
 obtain ⟨ih0, ih1, ih2⟩ := veils_read.mono_l k
 unfold veils_read.f
 repeat' first
  | (with_reducible exact ih0 _ _)
  | (with_reducible exact ih1 _ _ _)
  | (with_reducible exact ih2 _ _ _ _ _ _ _ _)
  | (with_reducible exact veils_alternates.mono _ _)
  | (with_reducible exact LeO.refl _)
  | (with_reducible exact LeO.none _)
  | (with_reducible refine LeO.ite ?_ ?_)
  | (with_reducible refine LeO.bind ?_ (fun _ => ?_))
  | exact ih0 _ _
  | exact ih1 _ _ _
  | exact ih2 _ _ _ _ _ _ _ _
  | exact veils_alternates.mono _ _
  | exact LeO.none _
  | refine LeO.ite ?_ ?_
  | refine LeO.bind ?_ (fun _ => ?_)
set_option maxHeartbeats 8000000 in
set_option maxRecDepth 100000 in
theorem veils_read.calls (k : Nat) (P0_ : Nat → Prop) (A0 : Option Addr) (c0 : Nat) (l0 : List (List Int)) (r1 : List (List Int)) (r2 : Bool) (w : World) (hs0 : Kd.V (Kd.slice 3 (Kd.int .i64)) 28 w w.heap.size (fun k_ => P0_ k_) (.slice A0 l0.length c0) l0) (h : veils_read.f k l0 = some (r1, r2)) :
 Calls Try.prog 51 #[.slice A0 l0.length c0] w fun e w' => ∃ v0_ : Value, e = .returned (.tuple #[v0_, .bool r2]) ∧ Kd.V (Kd.slice 3 (Kd.int .i64)) 28 w' w.heap.size (fun k_ => (P0_ k_ ∨ w.heap.size ≤ k_)) v0_ r1 ∧ Below w.heap.size w w' := by
 have HO0 := Aside0.mk (show Kd.V (Kd.slice 3 (Kd.int .i64)) 28 w w.heap.size (fun k_ => (P0_ k_ ∨ w.heap.size ≤ k_)) (.slice A0 l0.length c0) l0 from Kd.V_mono hs0 (fun k_ hk => .inl hk))
 have HB := Aside0.mk (Below.refl w.heap.size w)
 have H : (if (l0.length : Int) < 1 then (veils_read.j0 k l0 true) else (if (l0.length : Int) > 5 then (veils_read.j0 k l0 true) else ((slices_ContainsFunc_int_int.f (veils_read1.f l0) 1000 l0).bind fun t101 => (veils_read.j0 k l0 t101)))) = some (r1, r2) := h
 clear h
 have HC2 := Aside0.mk H
 clear H
 have hmf : ∀ (fn : Fn) (first cap : Array Value) (w : World), (Instr.makeFunc fn first cap).run Try.prog w = .ok (.func fn first cap) w := fun _ _ _ _ => rfl
 have HX : Aside0 ((w.alloc (.cells #[.slice A0 l0.length c0] 27)).heap[w.heap.size]? = some (.cells #[.slice A0 l0.length c0] 27 (0, 0))) := ⟨blk_new _ _⟩
 have hcell : (w.alloc (.cells #[.slice A0 l0.length c0] 27)).cell? ⟨w.heap.size, 0, none⟩ = some (.slice A0 l0.length c0) := by
  rw [World.cell?_alloc_at _ _ _ _ rfl]; rfl
 go_enter Try.func51, Try.ntmps51
 go_upto_region 1 with (fail)
 go_cut [20] (fun v20 wc => ∃ (kq : Nat) (x20_1 : Bool), v20 = .bool x20_1 ∧ Aside0 (veils_read.j0 kq l0 x20_1 = some (r1, r2)) ∧ Aside0 (kq ≤ k) ∧ Aside0 (Kd.V (Kd.slice 3 (Kd.int .i64)) 28 wc w.heap.size (fun k_ => (P0_ k_ ∨ w.heap.size ≤ k_)) (.slice A0 l0.length c0) l0) ∧ Aside0 (Below w.heap.size w wc) ∧ Aside0 (wc.heap[w.heap.size]? = some (.cells #[.slice A0 l0.length c0] 27 (0, 0))))
 case first =>
  have H := HC2.out
  clear HC2
  by_cases c3 : (l0.length : Int) < 1
  · rw [if_pos c3] at H
    have c3b0 : decide ((l0.length : Int) < 1) = true := decide_eq_true c3
    have c3b1 : decide (l0.length < 1) = true := decide_eq_true (by omega)
    clear c3
    (first | rw [c3b0] | (simp only [i64_w, i32_w]; rw [c3b0]) | skip)
    have H' := Aside0.mk H
    clear H
    go_wp2
    go_meet
    case rel => exact ⟨_, (true), (by first | rfl | (simp; done) | (simp [*]; done)), H', ⟨by first | omega | exact Nat.le_refl _⟩, ⟨by (with_reducible repeat (first | apply Kd.V_alloc | apply Kd.V_drewN | apply Kd.V_drew)); exact HO0.out⟩, ⟨by repeat (first | (with_reducible first | exact HB.out | apply below_alloc | apply pw_below_drewN | apply below_drew1) | exact HB.out)⟩, ⟨by (with_reducible repeat (first | exact HX.out | refine blk_drewN ?_ _ | refine blk_drew ?_ | refine blk_alloc ?_ _))⟩⟩
  · rw [if_neg c3] at H
    have c3b0 : decide ((l0.length : Int) < 1) = false := decide_eq_false c3
    have c3b1 : decide (l0.length < 1) = false := decide_eq_false (by omega)
    clear c3
    (first | rw [c3b0] | (simp only [i64_w, i32_w]; rw [c3b0]) | skip)
    by_cases c4 : (l0.length : Int) > 5
    · rw [if_pos c4] at H
      have c4b0 : decide (5 < (l0.length : Int)) = true := decide_eq_true c4
      have c4b1 : decide (5 < l0.length) = true := decide_eq_true (by omega)
      clear c4
      have H' := Aside0.mk H
      clear H
      go_wp2
      go_meet
      case rel => exact ⟨_, (true), (by first | rfl | (simp; done) | (simp [*]; done)), H', ⟨by first | omega | exact Nat.le_refl _⟩, ⟨by (with_reducible repeat (first | apply Kd.V_alloc | apply Kd.V_drewN | apply Kd.V_drew)); exact HO0.out⟩, ⟨by repeat (first | (with_reducible first | exact HB.out | apply below_alloc | apply pw_below_drewN | apply below_drew1) | exact HB.out)⟩, ⟨by (with_reducible repeat (first | exact HX.out | refine blk_drewN ?_ _ | refine blk_drew ?_ | refine blk_alloc ?_ _))⟩⟩
    · rw [if_neg c4] at H
      have c4b0 : decide (5 < (l0.length : Int)) = false := decide_eq_false c4
      have c4b1 : decide (5 < l0.length) = false := decide_eq_false (by omega)
      clear c4
      replace H := Option.bind_eq_some_iff.mp H
      obtain ⟨t101, A50, H⟩ := H
      replace H : (veils_read.j0 k l0 t101) = some (r1, r2) := H
      have A5 := Aside0.mk A50
      clear A50
      have H' := Aside0.mk H
      clear H
      go_wp2_with (first | (go_at_call 68; (refine (slices_ContainsFunc_int_int.calls (veils_read1.f l0) Try.func69 (by kernel_rfl) rfl #[.pointer (some ⟨w.heap.size, 0, none⟩)] 1000 _ _ l0 t101 _ ?hg ?side1 ?side2 A5.out).mono ?_); (case hg => exact ⟨fun A c row x W hd hr hc hx => by obtain ⟨n, rfl⟩ := hd.out; exact veils_read1.calls l0 A0 c0 w.heap.size A c row x _ ⟨blk_drewN HX.out n⟩ ⟨hr⟩ ⟨hc⟩ hx⟩); (case side1 => repeat (first | exact (Kd.V_reads' HO0.out).2.2 | (with_reducible refine Kd.C_alloc ?_ _) | (with_reducible refine Kd.C_drewN ?_ _) | (with_reducible refine Kd.C_drew ?_))); (case side2 => exact (Kd.V_reads' HO0.out).2.1); rintro e w' ⟨rfl, ⟨nd, rfl⟩⟩))
      go_meet
      case rel => exact ⟨_, (t101), (by first | rfl | (simp; done) | (simp [*]; done)), H', ⟨by first | omega | exact Nat.le_refl _⟩, ⟨by (with_reducible repeat (first | apply Kd.V_alloc | apply Kd.V_drewN | apply Kd.V_drew)); exact HO0.out⟩, ⟨by repeat (first | (with_reducible first | exact HB.out | apply below_alloc | apply pw_below_drewN | apply below_drew1) | exact HB.out)⟩, ⟨by (with_reducible repeat (first | exact HX.out | refine blk_drewN ?_ _ | refine blk_drew ?_ | refine blk_alloc ?_ _))⟩⟩
 case rest =>
  clear HC2
  try clear p2
  try clear c3
  try clear c3b0
  try clear c3b1
  try clear c4
  try clear c4b0
  try clear c4b1
  try clear c5
  obtain ⟨kq, x20_1, rfl, HA, HJ1, HO_1, HB, HX⟩ := hcut
  clear hcell
  have hcell := (blk_cell HX.out 0).trans (rfl : _ = some (Value.slice A0 l0.length c0))
  cases kq with
  | zero => exact absurd HA.out (by simp [veils_read.j0])
  | succ kj1 =>
   have H := HA.out
   clear HA
   simp only [veils_read.j0] at H
   by_cases c6 : x20_1 = true
   · subst c6
     have H1 : (some (([] : List (List Int)), false)) = some (r1, r2) := by rw [if_pos rfl] at H; exact H
     clear H
     have H := H1
     clear H1
     simp only [Option.some.injEq, Prod.mk.injEq] at H
     obtain ⟨rfl, rfl⟩ := H
     go_wp2
     go_ret2
     exact ⟨.slice none 0 0, by first | rfl | (simp [errW_none, errW_some] <;> rfl) | (simp [*, errW_none, errW_some] <;> rfl), Kd.V_mono (Kd.S_V (by first | exact Kd.S_nil (Kd.slice 3 (Kd.int .i64)) 28 _ w.heap.size (fun k_ => w.heap.size ≤ k_) | exact Kd.N_nil _ _ _ _ _ | exact Kd.V_nil _ _ _ _ _ | exact Kd.Q_nil _ _ _ _ _ | exact Kd.R_nil _ _ _ _ _)) (fun k_ hk => by first | exact ⟨(.inr (hk.1)), hk.2⟩ | exact (.inr (hk))), by repeat (first | (with_reducible first | exact HB.out | apply below_alloc | apply pw_below_drewN | apply below_drew1) | exact HB.out)⟩
   · replace c6 := Bool.eq_false_iff.mpr c6
     subst c6
     have H1 : (veils_read.l0 kj1 l0 (l0.length : Int) 0) = some (r1, r2) := by rw [if_neg (show ¬ (false = true) by decide)] at H; exact H
     clear H
     have H := H1
     clear H1
     have H' := Aside0.mk H
     clear H
     go_wp2
     go_loopg [23] kj1 (fun kq v23 w' => ∃ (x23_2 : Int), v23 = .int .i64 x23_2 ∧ Aside0 (veils_read.l0 kq l0 (l0.length : Int) x23_2 = some (r1, r2)) ∧ Aside0 (kq ≤ kj1) ∧ Aside0 (Kd.V (Kd.slice 3 (Kd.int .i64)) 28 w' w.heap.size (fun k_ => (P0_ k_ ∨ w.heap.size ≤ k_)) (.slice A0 l0.length c0) l0) ∧ Aside0 (Below w.heap.size w w') ∧ Aside0 (w'.heap[w.heap.size]? = some (.cells #[.slice A0 l0.length c0] 27 (0, 0))))
     case atStart => exact ⟨(0), (by first | rfl | (simp; done) | (simp [*]; done)), H', ⟨Nat.le_refl _⟩, ⟨by (with_reducible repeat (first | apply Kd.V_alloc | apply Kd.V_drewN | apply Kd.V_drew)); exact HO_1.out⟩, ⟨by repeat (first | (with_reducible first | exact HB.out | apply below_alloc | apply pw_below_drewN | apply below_drew1) | exact HB.out)⟩, ⟨by (with_reducible repeat (first | exact HX.out | refine blk_drewN ?_ _ | refine blk_drew ?_ | refine blk_alloc ?_ _))⟩⟩
     case round =>
      clear H'
      try clear p2
      try clear c3
      try clear c3b0
      try clear c3b1
      try clear c4
      try clear c4b0
      try clear c4b1
      try clear c5
      try clear c6
      try clear p2
      obtain ⟨x23_2, rfl, HA, HK2, HO_1, HB, HX⟩ := hrel
      clear hcell
      have hcell := (blk_cell HX.out 0).trans (rfl : _ = some (Value.slice A0 l0.length c0))
      cases gk with
      | zero => exact absurd HA.out (by simp [veils_read.l0])
      | succ k2 =>
       have H := HA.out
       clear HA
       simp only [veils_read.l0] at H
       by_cases c7 : x23_2 < (l0.length : Int)
       · rw [if_pos c7] at H
         have c7b0 : decide (x23_2 < (l0.length : Int)) = true := decide_eq_true c7
         clear c7
         have H' := Aside0.mk H
         clear H
         go_wp2
         go_loopg [5, 28] k2 (fun kq v5 v28 w' => ∃ (x5_3 : List Int) (x28_3 : Int), v28 = .int .i64 x28_3 ∧ Aside0 (veils_read.l1 kq l0 x23_2 x5_3 (l0.length : Int) x23_2 l0 (l0.length : Int) x28_3 = some (r1, r2)) ∧ Aside0 (kq ≤ k2) ∧ Aside0 (Kd.V (Kd.slice 3 (Kd.int .i64)) 28 w' w.heap.size (fun k_ => (P0_ k_ ∨ w.heap.size ≤ k_) ∧ some k_ ≠ (v5 : Value).ownBlock) (.slice A0 l0.length c0) l0) ∧ Aside0 (Kd.R (Kd.int .i64) 3 w' w.heap.size (fun k_ => (w.heap.size ≤ k_)) v5 x5_3) ∧ Aside0 (Kd.V (Kd.slice 3 (Kd.int .i64)) 28 w' w.heap.size (fun k_ => (P0_ k_ ∨ w.heap.size ≤ k_) ∧ some k_ ≠ (v5 : Value).ownBlock) (.slice A0 l0.length c0) l0) ∧ Aside0 (Below w.heap.size w w') ∧ Aside0 (w'.heap[w.heap.size]? = some (.cells #[.slice A0 l0.length c0] 27 (0, 0))))
         case atStart => exact ⟨(([] : List Int)), (0), (by first | rfl | (simp; done) | (simp [*]; done)), H', ⟨Nat.le_refl _⟩, ⟨by (with_reducible repeat (first | apply Kd.V_alloc | apply Kd.V_drewN | apply Kd.V_drew)); exact Kd.V_mono HO_1.out (fun _ hk => ⟨hk, (by simp [Value.ownBlock])⟩)⟩, ⟨by first | exact Kd.R_nil _ _ _ _ _ | exact Kd.N_nil _ _ _ _ _ | exact Kd.V_nil _ _ _ _ _ | exact Kd.Q_nil _ _ _ _ _ | exact Kd.S_nil _ _ _ _ _⟩, ⟨by (with_reducible repeat (first | apply Kd.V_alloc | apply Kd.V_drewN | apply Kd.V_drew)); exact Kd.V_mono HO_1.out (fun _ hk => ⟨hk, (by simp [Value.ownBlock])⟩)⟩, ⟨by repeat (first | (with_reducible first | exact HB.out | apply below_alloc | apply pw_below_drewN | apply below_drew1) | exact HB.out)⟩, ⟨by (with_reducible repeat (first | exact HX.out | refine blk_drewN ?_ _ | refine blk_drew ?_ | refine blk_alloc ?_ _))⟩⟩
         case round =>
          clear H'
          try clear p2
          try clear c3
          try clear c3b0
          try clear c3b1
          try clear c4
          try clear c4b0
          try clear c4b1
          try clear c5
          try clear c6
          try clear c7
          try clear c7b0
          try clear p2
          obtain ⟨x5_3, x28_3, rfl, HA, HK3, HO_1, HO_5, HO_26, HB, HX⟩ := hrel
          clear hcell
          have hcell := (blk_cell HX.out 0).trans (rfl : _ = some (Value.slice A0 l0.length c0))
          cases gk with
          | zero => exact absurd HA.out (by simp [veils_read.l1])
          | succ k3 =>
           have H := HA.out
           clear HA
           simp only [veils_read.l1] at H
           by_cases c8 : x28_3 < (l0.length : Int)
           · rw [if_pos c8] at H
             have c8b0 : decide (x28_3 < (l0.length : Int)) = true := decide_eq_true c8
             clear c8
             by_cases c9 : 0 ≤ x28_3
             · rw [if_pos c9] at H
               have c9b0 : decide (0 ≤ x28_3) = true := decide_eq_true c9
               clear c9
               by_cases c10 : x28_3 < (l0.length : Int)
               · rw [if_pos c10] at H
                 have c10b0 : decide (x28_3 < (l0.length : Int)) = true := decide_eq_true c10
                 clear c10
                 by_cases c11 : 0 ≤ x23_2
                 · rw [if_pos c11] at H
                   have c11b0 : decide (0 ≤ x23_2) = true := decide_eq_true c11
                   clear c11
                   by_cases c12 : x23_2 < ((rd_L1 l0 x28_3).length : Int)
                   · rw [if_pos c12] at H
                     have c12b0 : decide (x23_2 < ((rd_L1 l0 x28_3).length : Int)) = true := decide_eq_true c12
                     clear c12
                     by_cases c13 : x5_3.length < 17592186044416
                     · rw [if_pos c13] at H
                       have LMc13 := Aside0.mk c13
                       clear c13
                       obtain ⟨y104, hy104⟩ : ∃ y_ : List Int, y_ = (x5_3 ++ [rd (rd_L1 l0 x28_3) x23_2]) := ⟨_, rfl⟩
                       replace H : (veils_read.l1 k3 l0 x23_2 y104 (l0.length : Int) x23_2 l0 (l0.length : Int) (wrap64 (x28_3 + 1))) = some (r1, r2) := by first | (rw [hy104]; with_reducible exact H) | (have H2_ := (Option.bind_some _ _).symm.trans H; rw [hy104]; with_reducible exact H2_) | (have H2_ := (Option.bind_some _ _).symm.trans H; with_reducible exact H2_) | with_reducible exact H | (rw [hy104]; exact H) | exact H
                       have Ny104 := Aside0.mk hy104
                       clear hy104
                       have H' := Aside0.mk H
                       clear H
                       have p102 : 0 ≤ (x28_3 : Int) := of_decide_eq_true (by first | (with_reducible assumption) | assumption)
                       have q102 : x28_3 < (l0.length : Int) := of_decide_eq_true (by first | (with_reducible assumption) | assumption)
                       obtain ⟨ad102, A102_0, c102_0, e102, hx102_0, hl102_0, hi102_0⟩ := at_L1 (Kd.V_reads' HO_26.out).2.2 x28_3 p102 q102
                       cases e102
                       obtain ⟨ce102, hce102, hMe102, hcc102⟩ := Kd.V_get HO_26.out [] x28_3 p102 (by first | exact q102 | exact of_decide_eq_true (by first | (with_reducible assumption) | assumption) | (have e_ := (Kd.V_reads' HO_26.out).1; omega))
                       obtain ⟨ua102_0, uc102_0, rfl, ul102_0, ge102_0⟩ := Kd.FK_slice_open hMe102
                       have hv102_0 := hcc102 0 _ rfl
                       rw [Nat.add_zero, show ((Kd.slice 3 (Kd.int .i64))).sz = 1 from rfl, Nat.mul_one] at hv102_0
                       replace hv102_0 := Option.some.inj (hv102_0.symm.trans hx102_0)
                       injection hv102_0 with hva_ hvn_ hvc_
                       rw [hva_] at ge102_0
                       rw [hvc_] at ul102_0
                       have HL102_0 := Aside0.mk (show Kd.V (Kd.int .i64) 3 _ w.heap.size _ _ (rd_L1 l0 x28_3) from Kd.V_mk ul102_0 ge102_0)
                       clear hva_ hvn_ hvc_ ge102_0 ul102_0
                       clear hcc102 hce102
                       have HR102_0 := Aside0.mk hi102_0
                       have HC102_0 := Aside0.mk hl102_0
                       clear hi102_0 hl102_0
                       replace p102 := eq_true p102
                       replace q102 := eq_true q102
                       have p103 : 0 ≤ (x23_2 : Int) := of_decide_eq_true (by first | (with_reducible assumption) | assumption)
                       have q103 : x23_2 < ((rd_L1 l0 x28_3).length : Int) := of_decide_eq_true (by first | (with_reducible assumption) | assumption)
                       obtain ⟨ad103, e103, hx103_0⟩ := Kd.at_int (by repeat (first | (with_reducible exact HR102_0.out) | (with_reducible refine Kd.C_alloc ?_ _) | (with_reducible refine Kd.C_drewN ?_ _) | (with_reducible refine Kd.C_drew ?_) | exact HR102_0.out)) x23_2 p103 q103
                       cases e103
                       replace p103 := eq_true p103
                       replace q103 := eq_true q103
                       go_wp2_with (first | ((with_reducible refine gate_builtin (b := .append) (xs := #[.tmp 32, .tmp 37]) rfl ?_); (try (refine gate_guard (by rfl) ?_; dsimp only)); at_builtin; refine Kd.R_append (Kd.int .i64) (w0 := w) w.heap.size rfl (.tmp 32) (.tmp 37) 28 3 (.int .i64 0) 8 rfl Try.underlying28 info3 rfl (by decide) (by omega) u5 x5_3 (rd (rd_L1 l0 x28_3) x23_2) [.int .i64 (rd (rd_L1 l0 x28_3) x23_2)] (fun k_ => (w.heap.size ≤ k_)) (fun _ => False) rfl rfl ?aP (fun _ hk => hk.elim) ?aF ?aO ?aB ?aS ?aL ?_; (case aP => exact rfl); (case aB => exact (by repeat (first | (with_reducible first | exact HB.out | apply below_alloc | apply pw_below_drewN | apply below_drew1) | exact HB.out))); (case aF => exact (fun k_ hk => (Nat.le_trans (below_size (by repeat (first | (with_reducible first | exact HB.out | apply below_alloc | apply pw_below_drewN | apply below_drew1) | exact HB.out))) hk))); (case aO => exact (by (with_reducible repeat (first | apply Kd.R_alloc | apply Kd.R_drewN | apply Kd.R_drew)); exact HO_5.out)); (case aS => exact (below_size (by repeat (first | (with_reducible first | exact HB.out | apply below_alloc | apply pw_below_drewN | apply below_drew1) | exact HB.out)))); (case aL => have := LMc13.out; omega); intro v105 w14 ho hb hg hat; rw [← Ny104.out] at ho; have nX_ := Aside0.mk (blk_grown (show _ from HX.out) hg (Kd.R_ne HO_5.out HX.out (by decide))); clear hcell; clear HX; have HX := nX_; clear nX_; have n0_ := Aside0.mk (Kd.V_afterv (ok := (fun k_ => (P0_ k_ ∨ w.heap.size ≤ k_))) (by (with_reducible repeat (first | apply Kd.V_alloc | apply Kd.V_drewN | apply Kd.V_drew)); exact HO_1.out) hg hat); have n1_ := Aside0.mk (Kd.V_afterv (ok := (fun k_ => (P0_ k_ ∨ w.heap.size ≤ k_))) (by (with_reducible repeat (first | apply Kd.V_alloc | apply Kd.V_drewN | apply Kd.V_drew)); exact HO_26.out) hg hat); have n2_ := Aside0.mk (Kd.V_afterv (ok := (fun k_ => (P0_ k_ ∨ w.heap.size ≤ k_))) (by (with_reducible repeat (first | apply Kd.V_alloc | apply Kd.V_drewN | apply Kd.V_drew)); exact HL102_0.out) hg hat); have n3_ := Aside0.mk (hb); have n4_ := Aside0.mk (ho); clear HO_1; clear HO_26; clear HL102_0; clear HB; clear HO_5; have HO_1 := n0_; have HO_26 := n1_; have HL102_0 := n2_; have HB := n3_; have HO106 := n4_; clear n0_ n1_ n2_ n3_ n4_; clear ho hb hg hat))
                       go_roundg k3
                       case measure => have := HJ1.out; have := HK2.out; have := HK3.out; omega
                       case rel => exact ⟨(y104), (wrap64 (x28_3 + 1)), (by first | rfl | (simp; done) | (simp [*]; done)), H', ⟨by have := HJ1.out; have := HK2.out; have := HK3.out; omega⟩, ⟨by (with_reducible repeat (first | apply Kd.V_alloc | apply Kd.V_drewN | apply Kd.V_drew)); exact HO_1.out⟩, ⟨by (with_reducible repeat (first | apply Kd.R_alloc | apply Kd.R_drewN | apply Kd.R_drew)); exact HO106.out⟩, ⟨by (with_reducible repeat (first | apply Kd.V_alloc | apply Kd.V_drewN | apply Kd.V_drew)); exact HO_26.out⟩, ⟨by repeat (first | (with_reducible first | exact HB.out | apply below_alloc | apply pw_below_drewN | apply below_drew1) | exact HB.out)⟩, ⟨by (with_reducible repeat (first | exact HX.out | refine blk_drewN ?_ _ | refine blk_drew ?_ | refine blk_alloc ?_ _))⟩⟩
                     · rw [if_neg c13] at H
                       exact absurd H (by simp)
                   · rw [if_neg c12] at H
                     exact absurd H (by simp)
                 · rw [if_neg c11] at H
                   exact absurd H (by simp)
               · rw [if_neg c10] at H
                 exact absurd H (by simp)
             · rw [if_neg c9] at H
               exact absurd H (by simp)
           · rw [if_neg c8] at H
             have c8b0 : decide (x28_3 < (l0.length : Int)) = false := decide_eq_false c8
             clear c8
             replace H := Option.bind_eq_some_iff.mp H
             obtain ⟨t107, A150, H⟩ := H
             replace H : (if t107 = true then (veils_read.l0 k3 l0 (l0.length : Int) (wrap64 (x23_2 + 1))) else (some (([] : List (List Int)), false))) = some (r1, r2) := H
             have A15 := Aside0.mk A150
             clear A150
             by_cases c16 : t107 = true
             · subst c16
               have H1 : (veils_read.l0 k3 l0 (l0.length : Int) (wrap64 (x23_2 + 1))) = some (r1, r2) := by rw [if_pos rfl] at H; exact H
               clear H
               have H := H1
               clear H1
               have H' := Aside0.mk H
               clear H
               obtain ⟨Ao17, co17, eo17⟩ := Kd.R_slice HO_5.out
               subst eo17
               go_wp2_with (first | ((with_reducible refine gate_callee (f := 70) rfl ?_); refine goesL_ (some 41) rfl rfl Try.func70 (by kernel_rfl) rfl #[.slice Ao17 x5_3.length co17] rfl (by (try simp only [List.map_toArray, List.map_cons, List.map_nil]); first | done | rfl | (simp only [List.length_drop, List.length_take]; rfl)) ?_; (with_reducible refine (veils_alternates.calls k3 _ _ x5_3 true _ ?side1 ?side2 A15.out).mono ?_); (case side1 => repeat (first | exact (Kd.R_reads' HO_5.out).2.2 | (with_reducible refine Kd.C_alloc ?_ _) | (with_reducible refine Kd.C_drewN ?_ _) | (with_reducible refine Kd.C_drew ?_))); (case side2 => exact (Kd.R_reads' HO_5.out).2.1); rintro e w' ⟨rfl, ⟨nd, rfl⟩⟩; refine ⟨_, rfl, ?_⟩))
               go_roundg k3
               case measure => have := HJ1.out; have := HK2.out; have := HK3.out; omega
               case rel => exact ⟨(wrap64 (x23_2 + 1)), (by first | rfl | (simp; done) | (simp [*]; done)), H', ⟨by have := HJ1.out; have := HK2.out; have := HK3.out; omega⟩, ⟨by (with_reducible repeat (first | apply Kd.V_alloc | apply Kd.V_drewN | apply Kd.V_drew)); exact Kd.V_mono HO_1.out (fun _ hk => hk.1)⟩, ⟨by repeat (first | (with_reducible first | exact HB.out | apply below_alloc | apply pw_below_drewN | apply below_drew1) | exact HB.out)⟩, ⟨by (with_reducible repeat (first | exact HX.out | refine blk_drewN ?_ _ | refine blk_drew ?_ | refine blk_alloc ?_ _))⟩⟩
             · replace c16 := Bool.eq_false_iff.mpr c16
               subst c16
               have H1 : (some (([] : List (List Int)), false)) = some (r1, r2) := by rw [if_neg (show ¬ (false = true) by decide)] at H; exact H
               clear H
               have H := H1
               clear H1
               simp only [Option.some.injEq, Prod.mk.injEq] at H
               obtain ⟨rfl, rfl⟩ := H
               obtain ⟨Ao18, co18, eo18⟩ := Kd.R_slice HO_5.out
               subst eo18
               go_wp2_with (first | ((with_reducible refine gate_callee (f := 70) rfl ?_); refine goesL_ (some 41) rfl rfl Try.func70 (by kernel_rfl) rfl #[.slice Ao18 x5_3.length co18] rfl (by (try simp only [List.map_toArray, List.map_cons, List.map_nil]); first | done | rfl | (simp only [List.length_drop, List.length_take]; rfl)) ?_; (with_reducible refine (veils_alternates.calls k3 _ _ x5_3 false _ ?side1 ?side2 A15.out).mono ?_); (case side1 => repeat (first | exact (Kd.R_reads' HO_5.out).2.2 | (with_reducible refine Kd.C_alloc ?_ _) | (with_reducible refine Kd.C_drewN ?_ _) | (with_reducible refine Kd.C_drew ?_))); (case side2 => exact (Kd.R_reads' HO_5.out).2.1); rintro e w' ⟨rfl, ⟨nd, rfl⟩⟩; refine ⟨_, rfl, ?_⟩))
               go_ret2
               exact ⟨.slice none 0 0, by first | rfl | (simp [errW_none, errW_some] <;> rfl) | (simp [*, errW_none, errW_some] <;> rfl), Kd.V_mono (Kd.S_V (by first | exact Kd.S_nil (Kd.slice 3 (Kd.int .i64)) 28 _ w.heap.size (fun k_ => w.heap.size ≤ k_) | exact Kd.N_nil _ _ _ _ _ | exact Kd.V_nil _ _ _ _ _ | exact Kd.Q_nil _ _ _ _ _ | exact Kd.R_nil _ _ _ _ _)) (fun k_ hk => by first | exact ⟨(.inr (hk.1)), hk.2⟩ | exact (.inr (hk))), by repeat (first | (with_reducible first | exact HB.out | apply below_alloc | apply pw_below_drewN | apply below_drew1) | exact HB.out)⟩
       · rw [if_neg c7] at H
         have c7b0 : decide (x23_2 < (l0.length : Int)) = false := decide_eq_false c7
         clear c7
         simp only [Option.some.injEq, Prod.mk.injEq] at H
         obtain ⟨rfl, rfl⟩ := H
         go_wp2
         go_ret2
         exact ⟨_, by first | rfl | (simp [errW_none, errW_some] <;> rfl) | (simp [*, errW_none, errW_some] <;> rfl), by (with_reducible repeat (first | apply Kd.V_alloc | apply Kd.V_drewN | apply Kd.V_drew)); exact HO_1.out, by repeat (first | (with_reducible first | exact HB.out | apply below_alloc | apply pw_below_drewN | apply below_drew1) | exact HB.out)⟩

end Go.Proofs.Ytdinepghommchaa.V

-- Written by a program of this session over the kit's printer: wip/gp.py.
namespace Go.Proofs.Ytdinepghommchaa.V
open Go.RowKit Go.Proofs.YtdinepghommchaaW.PrintWords Go.Proofs.YtdinepghommchaaW.PrintLast Go.Proofs.YtdinepghommchaaW.PrintMore
attribute [local go_sem] max2_int min2_int max_two min_two max_three min_three max_four min_four   -- for this text's walks alone
set_option linter.unusedVariables false
set_option linter.unusedSimpArgs false

/-! ### veils_heights_thread: function 77 -/
def veils_heights_thread.f (l0 : List (List Int)) (a1_0 : Int) (a1_1 : Int) (a1_2 : Int) : Option (Bool) := if a1_2 = 0 then (if 0 ≤ (wrap64 (a1_0 - 1)) then (if (wrap64 (a1_0 - 1)) < (l0.length : Int) then (if 0 ≤ a1_1 then (if a1_1 < ((rd_L1 l0 (wrap64 (a1_0 - 1))).length : Int) then (if 0 ≤ (mx (wrap64 ((wrap64 (a1_0 - 1)) - 1)) 0) then (if (mx (wrap64 ((wrap64 (a1_0 - 1)) - 1)) 0) < (l0.length : Int) then (if a1_1 < ((rd_L1 l0 (mx (wrap64 ((wrap64 (a1_0 - 1)) - 1)) 0)).length : Int) then (if 0 ≤ (mx (wrap64 (a1_1 - 1)) 0) then (if (mx (wrap64 (a1_1 - 1)) 0) < ((rd_L1 l0 (wrap64 (a1_0 - 1))).length : Int) then (some (((wrap64 ((rd (rd_L1 l0 (wrap64 (a1_0 - 1))) a1_1) - (rd (rd_L1 l0 (wrap64 (a1_0 - 1))) (mx (wrap64 (a1_1 - 1)) 0)))) == 1) == ((Int.tmod (wrap64 ((wrap64 (a1_0 - 1)) + a1_1)) 2) == 1))) else (none)) else (none)) else (none)) else (none)) else (none)) else (none)) else (none)) else (none)) else (none)) else (if a1_2 = 3 then (if 0 ≤ a1_0 then (if a1_0 < (l0.length : Int) then (if 0 ≤ (wrap64 (a1_1 - 1)) then (if (wrap64 (a1_1 - 1)) < ((rd_L1 l0 a1_0).length : Int) then (if 0 ≤ (mx (wrap64 (a1_0 - 1)) 0) then (if (mx (wrap64 (a1_0 - 1)) 0) < (l0.length : Int) then (if (wrap64 (a1_1 - 1)) < ((rd_L1 l0 (mx (wrap64 (a1_0 - 1)) 0)).length : Int) then (if a1_2 = 2 then (if 0 ≤ (mx (wrap64 ((wrap64 (a1_1 - 1)) - 1)) 0) then (if (mx (wrap64 ((wrap64 (a1_1 - 1)) - 1)) 0) < ((rd_L1 l0 a1_0).length : Int) then (some (((wrap64 ((rd (rd_L1 l0 a1_0) (wrap64 (a1_1 - 1))) - (rd (rd_L1 l0 a1_0) (mx (wrap64 ((wrap64 (a1_1 - 1)) - 1)) 0)))) == 1) == ((Int.tmod (wrap64 (a1_0 + (wrap64 (a1_1 - 1)))) 2) == 1))) else (none)) else (none)) else (some (((wrap64 ((rd (rd_L1 l0 a1_0) (wrap64 (a1_1 - 1))) - (rd (rd_L1 l0 (mx (wrap64 (a1_0 - 1)) 0)) (wrap64 (a1_1 - 1))))) == 1) == ((Int.tmod (wrap64 (a1_0 + (wrap64 (a1_1 - 1)))) 2) == 0)))) else (none)) else (none)) else (none)) else (none)) else (none)) else (none)) else (none)) else (if 0 ≤ a1_0 then (if a1_0 < (l0.length : Int) then (if 0 ≤ a1_1 then (if a1_1 < ((rd_L1 l0 a1_0).length : Int) then (if 0 ≤ (mx (wrap64 (a1_0 - 1)) 0) then (if (mx (wrap64 (a1_0 - 1)) 0) < (l0.length : Int) then (if a1_1 < ((rd_L1 l0 (mx (wrap64 (a1_0 - 1)) 0)).length : Int) then (if a1_2 = 2 then (if 0 ≤ (mx (wrap64 (a1_1 - 1)) 0) then (if (mx (wrap64 (a1_1 - 1)) 0) < ((rd_L1 l0 a1_0).length : Int) then (some (((wrap64 ((rd (rd_L1 l0 a1_0) a1_1) - (rd (rd_L1 l0 a1_0) (mx (wrap64 (a1_1 - 1)) 0)))) == 1) == ((Int.tmod (wrap64 (a1_0 + a1_1)) 2) == 1))) else (none)) else (none)) else (some (((wrap64 ((rd (rd_L1 l0 a1_0) a1_1) - (rd (rd_L1 l0 (mx (wrap64 (a1_0 - 1)) 0)) a1_1))) == 1) == ((Int.tmod (wrap64 (a1_0 + a1_1)) 2) == 0)))) else (none)) else (none)) else (none)) else (none)) else (none)) else (none)) else (none)))
set_option maxHeartbeats 8000000 in
set_option maxRecDepth 100000 in
theorem veils_heights_thread.calls (A0 : Option Addr) (c0 : Nat) (l0 : List (List Int)) (a1_0 : Int) (a1_1 : Int) (a1_2 : Int) (r : Bool) (w : World) (hr0 : Kd.C (Kd.slice 3 (Kd.int .i64)) w A0 l0.length l0) (hc0 : l0.length ≤ c0) (h : veils_heights_thread.f l0 a1_0 a1_1 a1_2 = some r) :
 Calls Try.prog 77 #[.slice A0 l0.length c0, .agg #[.int .i64 a1_0, .int .i64 a1_1, .int .i64 a1_2]] w fun e w' => e = .returned (.bool r) ∧ Below w.heap.size w w' := by
 have hu73 := Try.underlying73
 have HR0 := Aside0.mk hr0
 have HC0 := Aside0.mk hc0
 clear hr0 hc0
 have HB := Aside0.mk (Below.refl w.heap.size w)
 have H : (if a1_2 = 0 then (if 0 ≤ (wrap64 (a1_0 - 1)) then (if (wrap64 (a1_0 - 1)) < (l0.length : Int) then (if 0 ≤ a1_1 then (if a1_1 < ((rd_L1 l0 (wrap64 (a1_0 - 1))).length : Int) then (if 0 ≤ (mx (wrap64 ((wrap64 (a1_0 - 1)) - 1)) 0) then (if (mx (wrap64 ((wrap64 (a1_0 - 1)) - 1)) 0) < (l0.length : Int) then (if a1_1 < ((rd_L1 l0 (mx (wrap64 ((wrap64 (a1_0 - 1)) - 1)) 0)).length : Int) then (if 0 ≤ (mx (wrap64 (a1_1 - 1)) 0) then (if (mx (wrap64 (a1_1 - 1)) 0) < ((rd_L1 l0 (wrap64 (a1_0 - 1))).length : Int) then (some (((wrap64 ((rd (rd_L1 l0 (wrap64 (a1_0 - 1))) a1_1) - (rd (rd_L1 l0 (wrap64 (a1_0 - 1))) (mx (wrap64 (a1_1 - 1)) 0)))) == 1) == ((Int.tmod (wrap64 ((wrap64 (a1_0 - 1)) + a1_1)) 2) == 1))) else (none)) else (none)) else (none)) else (none)) else (none)) else (none)) else (none)) else (none)) else (none)) else (if a1_2 = 3 then (if 0 ≤ a1_0 then (if a1_0 < (l0.length : Int) then (if 0 ≤ (wrap64 (a1_1 - 1)) then (if (wrap64 (a1_1 - 1)) < ((rd_L1 l0 a1_0).length : Int) then (if 0 ≤ (mx (wrap64 (a1_0 - 1)) 0) then (if (mx (wrap64 (a1_0 - 1)) 0) < (l0.length : Int) then (if (wrap64 (a1_1 - 1)) < ((rd_L1 l0 (mx (wrap64 (a1_0 - 1)) 0)).length : Int) then (if a1_2 = 2 then (if 0 ≤ (mx (wrap64 ((wrap64 (a1_1 - 1)) - 1)) 0) then (if (mx (wrap64 ((wrap64 (a1_1 - 1)) - 1)) 0) < ((rd_L1 l0 a1_0).length : Int) then (some (((wrap64 ((rd (rd_L1 l0 a1_0) (wrap64 (a1_1 - 1))) - (rd (rd_L1 l0 a1_0) (mx (wrap64 ((wrap64 (a1_1 - 1)) - 1)) 0)))) == 1) == ((Int.tmod (wrap64 (a1_0 + (wrap64 (a1_1 - 1)))) 2) == 1))) else (none)) else (none)) else (some (((wrap64 ((rd (rd_L1 l0 a1_0) (wrap64 (a1_1 - 1))) - (rd (rd_L1 l0 (mx (wrap64 (a1_0 - 1)) 0)) (wrap64 (a1_1 - 1))))) == 1) == ((Int.tmod (wrap64 (a1_0 + (wrap64 (a1_1 - 1)))) 2) == 0)))) else (none)) else (none)) else (none)) else (none)) else (none)) else (none)) else (none)) else (if 0 ≤ a1_0 then (if a1_0 < (l0.length : Int) then (if 0 ≤ a1_1 then (if a1_1 < ((rd_L1 l0 a1_0).length : Int) then (if 0 ≤ (mx (wrap64 (a1_0 - 1)) 0) then (if (mx (wrap64 (a1_0 - 1)) 0) < (l0.length : Int) then (if a1_1 < ((rd_L1 l0 (mx (wrap64 (a1_0 - 1)) 0)).length : Int) then (if a1_2 = 2 then (if 0 ≤ (mx (wrap64 (a1_1 - 1)) 0) then (if (mx (wrap64 (a1_1 - 1)) 0) < ((rd_L1 l0 a1_0).length : Int) then (some (((wrap64 ((rd (rd_L1 l0 a1_0) a1_1) - (rd (rd_L1 l0 a1_0) (mx (wrap64 (a1_1 - 1)) 0)))) == 1) == ((Int.tmod (wrap64 (a1_0 + a1_1)) 2) == 1))) else (none)) else (none)) else (some (((wrap64 ((rd (rd_L1 l0 a1_0) a1_1) - (rd (rd_L1 l0 (mx (wrap64 (a1_0 - 1)) 0)) a1_1))) == 1) == ((Int.tmod (wrap64 (a1_0 + a1_1)) 2) == 0)))) else (none)) else (none)) else (none)) else (none)) else (none)) else (none)) else (none)))) = some r := h
 clear h
 by_cases c3 : a1_2 = 0
 · rw [if_pos c3] at H
   have c3b0 : (a1_2 == 0) = true := beq_iff_eq.mpr c3
   have c3b1 : (a1_2 != 0) = false := bne_eq_false_iff_eq.mpr c3
   clear c3
   obtain ⟨ji4, hji4⟩ : ∃ j_ : Int, (wrap64 (a1_0 - 1)) = j_ := ⟨_, rfl⟩
   replace H : (if 0 ≤ (ji4) then (if (ji4) < (l0.length : Int) then (if 0 ≤ a1_1 then (if a1_1 < ((rd_L1 l0 (ji4)).length : Int) then (if 0 ≤ (mx (wrap64 ((ji4) - 1)) 0) then (if (mx (wrap64 ((ji4) - 1)) 0) < (l0.length : Int) then (if a1_1 < ((rd_L1 l0 (mx (wrap64 ((ji4) - 1)) 0)).length : Int) then (if 0 ≤ (mx (wrap64 (a1_1 - 1)) 0) then (if (mx (wrap64 (a1_1 - 1)) 0) < ((rd_L1 l0 (ji4)).length : Int) then (some (((wrap64 ((rd (rd_L1 l0 (ji4)) a1_1) - (rd (rd_L1 l0 (ji4)) (mx (wrap64 (a1_1 - 1)) 0)))) == 1) == ((Int.tmod (wrap64 ((ji4) + a1_1)) 2) == 1))) else (none)) else (none)) else (none)) else (none)) else (none)) else (none)) else (none)) else (none)) else (none)) = some r := by first | (rw [hji4] at H; exact H) | (simp only [hji4] at H ⊢; exact H)
   have hji4w : (IntKind.i64.wrap (a1_0 - 1)) = ji4 := (i64_w _).trans hji4
   by_cases c5 : 0 ≤ (ji4)
   · rw [if_pos c5] at H
     have c5b0 : decide (0 ≤ (ji4)) = true := decide_eq_true c5
     clear c5
     by_cases c6 : (ji4) < (l0.length : Int)
     · rw [if_pos c6] at H
       have c6b0 : decide ((ji4) < (l0.length : Int)) = true := decide_eq_true c6
       clear c6
       by_cases c7 : 0 ≤ a1_1
       · rw [if_pos c7] at H
         have c7b0 : decide (0 ≤ a1_1) = true := decide_eq_true c7
         clear c7
         by_cases c8 : a1_1 < ((rd_L1 l0 (ji4)).length : Int)
         · rw [if_pos c8] at H
           have c8b0 : decide (a1_1 < ((rd_L1 l0 (ji4)).length : Int)) = true := decide_eq_true c8
           clear c8
           obtain ⟨ji9, hji9⟩ : ∃ j_ : Int, (mx (wrap64 ((ji4) - 1)) 0) = j_ := ⟨_, rfl⟩
           replace H : (if 0 ≤ (ji9) then (if (ji9) < (l0.length : Int) then (if a1_1 < ((rd_L1 l0 (ji9)).length : Int) then (if 0 ≤ (mx (wrap64 (a1_1 - 1)) 0) then (if (mx (wrap64 (a1_1 - 1)) 0) < ((rd_L1 l0 (ji4)).length : Int) then (some (((wrap64 ((rd (rd_L1 l0 (ji4)) a1_1) - (rd (rd_L1 l0 (ji4)) (mx (wrap64 (a1_1 - 1)) 0)))) == 1) == ((Int.tmod (wrap64 ((ji4) + a1_1)) 2) == 1))) else (none)) else (none)) else (none)) else (none)) else (none)) = some r := by first | (rw [hji9] at H; exact H) | (simp only [hji9] at H ⊢; exact H)
           have hji9_ : (if (wrap64 ((ji4) - 1)) < 0 then 0 else (wrap64 ((ji4) - 1))) = ji9 := hji9
           by_cases c10 : 0 ≤ (ji9)
           · rw [if_pos c10] at H
             have c10b0 : decide (0 ≤ (ji9)) = true := decide_eq_true c10
             clear c10
             by_cases c11 : (ji9) < (l0.length : Int)
             · rw [if_pos c11] at H
               have c11b0 : decide ((ji9) < (l0.length : Int)) = true := decide_eq_true c11
               clear c11
               by_cases c12 : a1_1 < ((rd_L1 l0 (ji9)).length : Int)
               · rw [if_pos c12] at H
                 have c12b0 : decide (a1_1 < ((rd_L1 l0 (ji9)).length : Int)) = true := decide_eq_true c12
                 clear c12
                 obtain ⟨ji13, hji13⟩ : ∃ j_ : Int, (mx (wrap64 (a1_1 - 1)) 0) = j_ := ⟨_, rfl⟩
                 replace H : (if 0 ≤ (ji13) then (if (ji13) < ((rd_L1 l0 (ji4)).length : Int) then (some (((wrap64 ((rd (rd_L1 l0 (ji4)) a1_1) - (rd (rd_L1 l0 (ji4)) (ji13)))) == 1) == ((Int.tmod (wrap64 ((ji4) + a1_1)) 2) == 1))) else (none)) else (none)) = some r := by first | (rw [hji13] at H; exact H) | (simp only [hji13] at H ⊢; exact H)
                 (try (have hji13l : 0 ≤ ji13 := by (rw [← hji13]; unfold mx; (repeat' split) <;> omega)))
                 (try (have hji13m : 0 ≤ ji13 := by omega))
                 have hji13_ : (if (wrap64 (a1_1 - 1)) < 0 then 0 else (wrap64 (a1_1 - 1))) = ji13 := hji13
                 by_cases c14 : 0 ≤ (ji13)
                 · rw [if_pos c14] at H
                   have c14b0 : decide (0 ≤ (ji13)) = true := decide_eq_true c14
                   clear c14
                   by_cases c15 : (ji13) < ((rd_L1 l0 (ji4)).length : Int)
                   · rw [if_pos c15] at H
                     have c15b0 : decide ((ji13) < ((rd_L1 l0 (ji4)).length : Int)) = true := decide_eq_true c15
                     clear c15
                     obtain rfl := Option.some.inj H
                     go_enter Try.func77, Try.ntmps77
                     go_wp2_with (first | ((with_reducible refine gate_dst (N := 3) rfl ?_); refine box_event ?hg (N := 3) ?hd (cs := #[.int .i64 a1_0, .int .i64 a1_1, .int .i64 a1_2]) (t := 73) ?hr ?_; (case hd => rfl); (case hg => rfl); (case hr => first | (go_simp; done) | (go_simp; rfl)); intro gb253 hg w16 hbox hb; have n0_ := Aside0.mk (below_step (by repeat (first | (with_reducible first | exact HB.out | apply below_alloc | apply pw_below_drewN | apply below_drew1) | exact HB.out)) hb); have n1_ := Aside0.mk (hbox); have n2_ := Aside0.mk ((by rw [hg]; exact (below_size (by repeat (first | (with_reducible first | exact HB.out | apply below_alloc | apply pw_below_drewN | apply below_drew1) | exact HB.out))) : w.heap.size ≤ gb253)); have n3_ := Aside0.mk ((by rw [hg]; exact (below_size (by repeat (first | (with_reducible first | exact HB.out | apply below_alloc | apply pw_below_drewN | apply below_drew1) | exact HB.out))) : w.heap.size ≤ gb253)); clear HB; have HB := n0_; have BK253 := n1_; have GW253 := n2_; have GE253 := n3_; clear n0_ n1_ n2_ n3_; clear hb hbox hg; have hcz17_0 : w16.cell? ⟨gb253, 0, none⟩ = some (.int .i64 a1_0) := (blk_cell BK253.out 0).trans rfl; have hcz17_1 : w16.cell? ⟨gb253, 1, none⟩ = some (.int .i64 a1_1) := (blk_cell BK253.out 1).trans rfl; have hcz17_2 : w16.cell? ⟨gb253, 2, none⟩ = some (.int .i64 a1_2) := (blk_cell BK253.out 2).trans rfl; have hfz17_0 := blk_frozen BK253.out 0; have hfz17_1 := blk_frozen BK253.out 1; have hfz17_2 := blk_frozen BK253.out 2; have p254 : 0 ≤ ((ji4) : Int) := of_decide_eq_true (by first | (with_reducible assumption) | assumption); have q254 : (ji4) < (l0.length : Int) := of_decide_eq_true (by first | (with_reducible assumption) | assumption); obtain ⟨ad254, A254_0, c254_0, e254, hx254_0, hl254_0, hi254_0⟩ := at_L1 HR0.out (ji4) p254 q254; cases e254; replace hx254_0 := (HB.out.cell (World.block_lt_of_cell? w _ hx254_0)).trans hx254_0; have HR254_0 := Aside0.mk hi254_0; have HC254_0 := Aside0.mk hl254_0; clear hi254_0 hl254_0; replace p254 := eq_true p254; replace q254 := eq_true q254; have p255 : 0 ≤ (a1_1 : Int) := of_decide_eq_true (by first | (with_reducible assumption) | assumption); have q255 : a1_1 < ((rd_L1 l0 (ji4)).length : Int) := of_decide_eq_true (by first | (with_reducible assumption) | assumption); obtain ⟨ad255, e255, hx255_0⟩ := Kd.at_int HR254_0.out a1_1 p255 q255; cases e255; replace hx255_0 := (HB.out.cell (World.block_lt_of_cell? w _ hx255_0)).trans hx255_0; replace p255 := eq_true p255; replace q255 := eq_true q255; have p256 : 0 ≤ ((ji9) : Int) := of_decide_eq_true (by first | (with_reducible assumption) | assumption); have q256 : (ji9) < (l0.length : Int) := of_decide_eq_true (by first | (with_reducible assumption) | assumption); obtain ⟨ad256, A256_0, c256_0, e256, hx256_0, hl256_0, hi256_0⟩ := at_L1 HR0.out (ji9) p256 q256; obtain rfl : ad254 = ad256 := (by injection e256); replace hx256_0 := (HB.out.cell (World.block_lt_of_cell? w _ hx256_0)).trans hx256_0; have HR256_0 := Aside0.mk hi256_0; have HC256_0 := Aside0.mk hl256_0; clear hi256_0 hl256_0; replace p256 := eq_true p256; replace q256 := eq_true q256; have p257 : 0 ≤ (a1_1 : Int) := of_decide_eq_true (by first | (with_reducible assumption) | assumption); have q257 : a1_1 < ((rd_L1 l0 (ji9)).length : Int) := of_decide_eq_true (by first | (with_reducible assumption) | assumption); obtain ⟨ad257, e257, hx257_0⟩ := Kd.at_int HR256_0.out a1_1 p257 q257; cases e257; replace hx257_0 := (HB.out.cell (World.block_lt_of_cell? w _ hx257_0)).trans hx257_0; replace p257 := eq_true p257; replace q257 := eq_true q257; have p258 : 0 ≤ ((ji4) : Int) := of_decide_eq_true (by first | (with_reducible assumption) | assumption); have q258 : (ji4) < (l0.length : Int) := of_decide_eq_true (by first | (with_reducible assumption) | assumption); obtain ⟨ad258, A258_0, c258_0, e258, hx258_0, hl258_0, hi258_0⟩ := at_L1 HR0.out (ji4) p258 q258; obtain rfl : ad254 = ad258 := (by injection e258); replace hx258_0 := (HB.out.cell (World.block_lt_of_cell? w _ hx258_0)).trans hx258_0; have HR258_0 := Aside0.mk hi258_0; have HC258_0 := Aside0.mk hl258_0; clear hi258_0 hl258_0; replace p258 := eq_true p258; replace q258 := eq_true q258; have ea_ := Option.some.inj (hx254_0.symm.trans hx258_0); injection ea_ with ea_ en_ ec_; subst ea_; subst ec_; clear en_; have p259 : 0 ≤ (a1_1 : Int) := of_decide_eq_true (by first | (with_reducible assumption) | assumption); have q259 : a1_1 < ((rd_L1 l0 (ji4)).length : Int) := of_decide_eq_true (by first | (with_reducible assumption) | assumption); obtain ⟨ad259, e259, hx259_0⟩ := Kd.at_int HR258_0.out a1_1 p259 q259; cases e259; replace hx259_0 := (HB.out.cell (World.block_lt_of_cell? w _ hx259_0)).trans hx259_0; replace p259 := eq_true p259; replace q259 := eq_true q259; have p260 : 0 ≤ ((ji4) : Int) := of_decide_eq_true (by first | (with_reducible assumption) | assumption); have q260 : (ji4) < (l0.length : Int) := of_decide_eq_true (by first | (with_reducible assumption) | assumption); obtain ⟨ad260, A260_0, c260_0, e260, hx260_0, hl260_0, hi260_0⟩ := at_L1 HR0.out (ji4) p260 q260; obtain rfl : ad254 = ad260 := (by injection e260); replace hx260_0 := (HB.out.cell (World.block_lt_of_cell? w _ hx260_0)).trans hx260_0; have HR260_0 := Aside0.mk hi260_0; have HC260_0 := Aside0.mk hl260_0; clear hi260_0 hl260_0; replace p260 := eq_true p260; replace q260 := eq_true q260; have ea_ := Option.some.inj (hx254_0.symm.trans hx260_0); injection ea_ with ea_ en_ ec_; subst ea_; subst ec_; clear en_; have p261 : 0 ≤ ((ji13) : Int) := of_decide_eq_true (by first | (with_reducible assumption) | assumption); have q261 : (ji13) < ((rd_L1 l0 (ji4)).length : Int) := of_decide_eq_true (by first | (with_reducible assumption) | assumption); obtain ⟨ad261, e261, hx261_0⟩ := Kd.at_int HR260_0.out (ji13) p261 q261; cases e261; replace hx261_0 := (HB.out.cell (World.block_lt_of_cell? w _ hx261_0)).trans hx261_0; replace p261 := eq_true p261; replace q261 := eq_true q261))
                     repeat (go_quiet (first | ((with_reducible refine gate_dst (N := 3) rfl ?_); refine box_event ?hg (N := 3) ?hd (cs := #[.int .i64 a1_0, .int .i64 a1_1, .int .i64 a1_2]) (t := 73) ?hr ?_; (case hd => rfl); (case hg => rfl); (case hr => first | (go_simp; done) | (go_simp; rfl)); intro gb253 hg w16 hbox hb; have n0_ := Aside0.mk (below_step (by repeat (first | (with_reducible first | exact HB.out | apply below_alloc | apply pw_below_drewN | apply below_drew1) | exact HB.out)) hb); have n1_ := Aside0.mk (hbox); have n2_ := Aside0.mk ((by rw [hg]; exact (below_size (by repeat (first | (with_reducible first | exact HB.out | apply below_alloc | apply pw_below_drewN | apply below_drew1) | exact HB.out))) : w.heap.size ≤ gb253)); have n3_ := Aside0.mk ((by rw [hg]; exact (below_size (by repeat (first | (with_reducible first | exact HB.out | apply below_alloc | apply pw_below_drewN | apply below_drew1) | exact HB.out))) : w.heap.size ≤ gb253)); clear HB; have HB := n0_; have BK253 := n1_; have GW253 := n2_; have GE253 := n3_; clear n0_ n1_ n2_ n3_; clear hb hbox hg; have hcz17_0 : w16.cell? ⟨gb253, 0, none⟩ = some (.int .i64 a1_0) := (blk_cell BK253.out 0).trans rfl; have hcz17_1 : w16.cell? ⟨gb253, 1, none⟩ = some (.int .i64 a1_1) := (blk_cell BK253.out 1).trans rfl; have hcz17_2 : w16.cell? ⟨gb253, 2, none⟩ = some (.int .i64 a1_2) := (blk_cell BK253.out 2).trans rfl; have hfz17_0 := blk_frozen BK253.out 0; have hfz17_1 := blk_frozen BK253.out 1; have hfz17_2 := blk_frozen BK253.out 2; have p254 : 0 ≤ ((ji4) : Int) := of_decide_eq_true (by first | (with_reducible assumption) | assumption); have q254 : (ji4) < (l0.length : Int) := of_decide_eq_true (by first | (with_reducible assumption) | assumption); obtain ⟨ad254, A254_0, c254_0, e254, hx254_0, hl254_0, hi254_0⟩ := at_L1 HR0.out (ji4) p254 q254; cases e254; replace hx254_0 := (HB.out.cell (World.block_lt_of_cell? w _ hx254_0)).trans hx254_0; have HR254_0 := Aside0.mk hi254_0; have HC254_0 := Aside0.mk hl254_0; clear hi254_0 hl254_0; replace p254 := eq_true p254; replace q254 := eq_true q254; have p255 : 0 ≤ (a1_1 : Int) := of_decide_eq_true (by first | (with_reducible assumption) | assumption); have q255 : a1_1 < ((rd_L1 l0 (ji4)).length : Int) := of_decide_eq_true (by first | (with_reducible assumption) | assumption); obtain ⟨ad255, e255, hx255_0⟩ := Kd.at_int HR254_0.out a1_1 p255 q255; cases e255; replace hx255_0 := (HB.out.cell (World.block_lt_of_cell? w _ hx255_0)).trans hx255_0; replace p255 := eq_true p255; replace q255 := eq_true q255; have p256 : 0 ≤ ((ji9) : Int) := of_decide_eq_true (by first | (with_reducible assumption) | assumption); have q256 : (ji9) < (l0.length : Int) := of_decide_eq_true (by first | (with_reducible assumption) | assumption); obtain ⟨ad256, A256_0, c256_0, e256, hx256_0, hl256_0, hi256_0⟩ := at_L1 HR0.out (ji9) p256 q256; obtain rfl : ad254 = ad256 := (by injection e256); replace hx256_0 := (HB.out.cell (World.block_lt_of_cell? w _ hx256_0)).trans hx256_0; have HR256_0 := Aside0.mk hi256_0; have HC256_0 := Aside0.mk hl256_0; clear hi256_0 hl256_0; replace p256 := eq_true p256; replace q256 := eq_true q256; have p257 : 0 ≤ (a1_1 : Int) := of_decide_eq_true (by first | (with_reducible assumption) | assumption); have q257 : a1_1 < ((rd_L1 l0 (ji9)).length : Int) := of_decide_eq_true (by first | (with_reducible assumption) | assumption); obtain ⟨ad257, e257, hx257_0⟩ := Kd.at_int HR256_0.out a1_1 p257 q257; cases e257; replace hx257_0 := (HB.out.cell (World.block_lt_of_cell? w _ hx257_0)).trans hx257_0; replace p257 := eq_true p257; replace q257 := eq_true q257; have p258 : 0 ≤ ((ji4) : Int) := of_decide_eq_true (by first | (with_reducible assumption) | assumption); have q258 : (ji4) < (l0.length : Int) := of_decide_eq_true (by first | (with_reducible assumption) | assumption); obtain ⟨ad258, A258_0, c258_0, e258, hx258_0, hl258_0, hi258_0⟩ := at_L1 HR0.out (ji4) p258 q258; obtain rfl : ad254 = ad258 := (by injection e258); replace hx258_0 := (HB.out.cell (World.block_lt_of_cell? w _ hx258_0)).trans hx258_0; have HR258_0 := Aside0.mk hi258_0; have HC258_0 := Aside0.mk hl258_0; clear hi258_0 hl258_0; replace p258 := eq_true p258; replace q258 := eq_true q258; have ea_ := Option.some.inj (hx254_0.symm.trans hx258_0); injection ea_ with ea_ en_ ec_; subst ea_; subst ec_; clear en_; have p259 : 0 ≤ (a1_1 : Int) := of_decide_eq_true (by first | (with_reducible assumption) | assumption); have q259 : a1_1 < ((rd_L1 l0 (ji4)).length : Int) := of_decide_eq_true (by first | (with_reducible assumption) | assumption); obtain ⟨ad259, e259, hx259_0⟩ := Kd.at_int HR258_0.out a1_1 p259 q259; cases e259; replace hx259_0 := (HB.out.cell (World.block_lt_of_cell? w _ hx259_0)).trans hx259_0; replace p259 := eq_true p259; replace q259 := eq_true q259; have p260 : 0 ≤ ((ji4) : Int) := of_decide_eq_true (by first | (with_reducible assumption) | assumption); have q260 : (ji4) < (l0.length : Int) := of_decide_eq_true (by first | (with_reducible assumption) | assumption); obtain ⟨ad260, A260_0, c260_0, e260, hx260_0, hl260_0, hi260_0⟩ := at_L1 HR0.out (ji4) p260 q260; obtain rfl : ad254 = ad260 := (by injection e260); replace hx260_0 := (HB.out.cell (World.block_lt_of_cell? w _ hx260_0)).trans hx260_0; have HR260_0 := Aside0.mk hi260_0; have HC260_0 := Aside0.mk hl260_0; clear hi260_0 hl260_0; replace p260 := eq_true p260; replace q260 := eq_true q260; have ea_ := Option.some.inj (hx254_0.symm.trans hx260_0); injection ea_ with ea_ en_ ec_; subst ea_; subst ec_; clear en_; have p261 : 0 ≤ ((ji13) : Int) := of_decide_eq_true (by first | (with_reducible assumption) | assumption); have q261 : (ji13) < ((rd_L1 l0 (ji4)).length : Int) := of_decide_eq_true (by first | (with_reducible assumption) | assumption); obtain ⟨ad261, e261, hx261_0⟩ := Kd.at_int HR260_0.out (ji13) p261 q261; cases e261; replace hx261_0 := (HB.out.cell (World.block_lt_of_cell? w _ hx261_0)).trans hx261_0; replace p261 := eq_true p261; replace q261 := eq_true q261)); try go_wp2_with (first | ((with_reducible refine gate_dst (N := 3) rfl ?_); refine box_event ?hg (N := 3) ?hd (cs := #[.int .i64 a1_0, .int .i64 a1_1, .int .i64 a1_2]) (t := 73) ?hr ?_; (case hd => rfl); (case hg => rfl); (case hr => first | (go_simp; done) | (go_simp; rfl)); intro gb253 hg w16 hbox hb; have n0_ := Aside0.mk (below_step (by repeat (first | (with_reducible first | exact HB.out | apply below_alloc | apply pw_below_drewN | apply below_drew1) | exact HB.out)) hb); have n1_ := Aside0.mk (hbox); have n2_ := Aside0.mk ((by rw [hg]; exact (below_size (by repeat (first | (with_reducible first | exact HB.out | apply below_alloc | apply pw_below_drewN | apply below_drew1) | exact HB.out))) : w.heap.size ≤ gb253)); have n3_ := Aside0.mk ((by rw [hg]; exact (below_size (by repeat (first | (with_reducible first | exact HB.out | apply below_alloc | apply pw_below_drewN | apply below_drew1) | exact HB.out))) : w.heap.size ≤ gb253)); clear HB; have HB := n0_; have BK253 := n1_; have GW253 := n2_; have GE253 := n3_; clear n0_ n1_ n2_ n3_; clear hb hbox hg; have hcz17_0 : w16.cell? ⟨gb253, 0, none⟩ = some (.int .i64 a1_0) := (blk_cell BK253.out 0).trans rfl; have hcz17_1 : w16.cell? ⟨gb253, 1, none⟩ = some (.int .i64 a1_1) := (blk_cell BK253.out 1).trans rfl; have hcz17_2 : w16.cell? ⟨gb253, 2, none⟩ = some (.int .i64 a1_2) := (blk_cell BK253.out 2).trans rfl; have hfz17_0 := blk_frozen BK253.out 0; have hfz17_1 := blk_frozen BK253.out 1; have hfz17_2 := blk_frozen BK253.out 2; have p254 : 0 ≤ ((ji4) : Int) := of_decide_eq_true (by first | (with_reducible assumption) | assumption); have q254 : (ji4) < (l0.length : Int) := of_decide_eq_true (by first | (with_reducible assumption) | assumption); obtain ⟨ad254, A254_0, c254_0, e254, hx254_0, hl254_0, hi254_0⟩ := at_L1 HR0.out (ji4) p254 q254; cases e254; replace hx254_0 := (HB.out.cell (World.block_lt_of_cell? w _ hx254_0)).trans hx254_0; have HR254_0 := Aside0.mk hi254_0; have HC254_0 := Aside0.mk hl254_0; clear hi254_0 hl254_0; replace p254 := eq_true p254; replace q254 := eq_true q254; have p255 : 0 ≤ (a1_1 : Int) := of_decide_eq_true (by first | (with_reducible assumption) | assumption); have q255 : a1_1 < ((rd_L1 l0 (ji4)).length : Int) := of_decide_eq_true (by first | (with_reducible assumption) | assumption); obtain ⟨ad255, e255, hx255_0⟩ := Kd.at_int HR254_0.out a1_1 p255 q255; cases e255; replace hx255_0 := (HB.out.cell (World.block_lt_of_cell? w _ hx255_0)).trans hx255_0; replace p255 := eq_true p255; replace q255 := eq_true q255; have p256 : 0 ≤ ((ji9) : Int) := of_decide_eq_true (by first | (with_reducible assumption) | assumption); have q256 : (ji9) < (l0.length : Int) := of_decide_eq_true (by first | (with_reducible assumption) | assumption); obtain ⟨ad256, A256_0, c256_0, e256, hx256_0, hl256_0, hi256_0⟩ := at_L1 HR0.out (ji9) p256 q256; obtain rfl : ad254 = ad256 := (by injection e256); replace hx256_0 := (HB.out.cell (World.block_lt_of_cell? w _ hx256_0)).trans hx256_0; have HR256_0 := Aside0.mk hi256_0; have HC256_0 := Aside0.mk hl256_0; clear hi256_0 hl256_0; replace p256 := eq_true p256; replace q256 := eq_true q256; have p257 : 0 ≤ (a1_1 : Int) := of_decide_eq_true (by first | (with_reducible assumption) | assumption); have q257 : a1_1 < ((rd_L1 l0 (ji9)).length : Int) := of_decide_eq_true (by first | (with_reducible assumption) | assumption); obtain ⟨ad257, e257, hx257_0⟩ := Kd.at_int HR256_0.out a1_1 p257 q257; cases e257; replace hx257_0 := (HB.out.cell (World.block_lt_of_cell? w _ hx257_0)).trans hx257_0; replace p257 := eq_true p257; replace q257 := eq_true q257; have p258 : 0 ≤ ((ji4) : Int) := of_decide_eq_true (by first | (with_reducible assumption) | assumption); have q258 : (ji4) < (l0.length : Int) := of_decide_eq_true (by first | (with_reducible assumption) | assumption); obtain ⟨ad258, A258_0, c258_0, e258, hx258_0, hl258_0, hi258_0⟩ := at_L1 HR0.out (ji4) p258 q258; obtain rfl : ad254 = ad258 := (by injection e258); replace hx258_0 := (HB.out.cell (World.block_lt_of_cell? w _ hx258_0)).trans hx258_0; have HR258_0 := Aside0.mk hi258_0; have HC258_0 := Aside0.mk hl258_0; clear hi258_0 hl258_0; replace p258 := eq_true p258; replace q258 := eq_true q258; have ea_ := Option.some.inj (hx254_0.symm.trans hx258_0); injection ea_ with ea_ en_ ec_; subst ea_; subst ec_; clear en_; have p259 : 0 ≤ (a1_1 : Int) := of_decide_eq_true (by first | (with_reducible assumption) | assumption); have q259 : a1_1 < ((rd_L1 l0 (ji4)).length : Int) := of_decide_eq_true (by first | (with_reducible assumption) | assumption); obtain ⟨ad259, e259, hx259_0⟩ := Kd.at_int HR258_0.out a1_1 p259 q259; cases e259; replace hx259_0 := (HB.out.cell (World.block_lt_of_cell? w _ hx259_0)).trans hx259_0; replace p259 := eq_true p259; replace q259 := eq_true q259; have p260 : 0 ≤ ((ji4) : Int) := of_decide_eq_true (by first | (with_reducible assumption) | assumption); have q260 : (ji4) < (l0.length : Int) := of_decide_eq_true (by first | (with_reducible assumption) | assumption); obtain ⟨ad260, A260_0, c260_0, e260, hx260_0, hl260_0, hi260_0⟩ := at_L1 HR0.out (ji4) p260 q260; obtain rfl : ad254 = ad260 := (by injection e260); replace hx260_0 := (HB.out.cell (World.block_lt_of_cell? w _ hx260_0)).trans hx260_0; have HR260_0 := Aside0.mk hi260_0; have HC260_0 := Aside0.mk hl260_0; clear hi260_0 hl260_0; replace p260 := eq_true p260; replace q260 := eq_true q260; have ea_ := Option.some.inj (hx254_0.symm.trans hx260_0); injection ea_ with ea_ en_ ec_; subst ea_; subst ec_; clear en_; have p261 : 0 ≤ ((ji13) : Int) := of_decide_eq_true (by first | (with_reducible assumption) | assumption); have q261 : (ji13) < ((rd_L1 l0 (ji4)).length : Int) := of_decide_eq_true (by first | (with_reducible assumption) | assumption); obtain ⟨ad261, e261, hx261_0⟩ := Kd.at_int HR260_0.out (ji13) p261 q261; cases e261; replace hx261_0 := (HB.out.cell (World.block_lt_of_cell? w _ hx261_0)).trans hx261_0; replace p261 := eq_true p261; replace q261 := eq_true q261)))
                     go_ret
                     exact ⟨by first | rfl | (simp [errW_none, errW_some] <;> rfl) | (simp only [← hji4, ← hji9, ← hji13]; first | rfl | (simp [errW_none, errW_some] <;> rfl)) | (simp [*, errW_none, errW_some] <;> rfl), by repeat (first | (with_reducible first | exact HB.out | apply below_alloc | apply pw_below_drewN | apply below_drew1 | refine below_set ?_ GE253.out) | exact HB.out)⟩
                   · rw [if_neg c15] at H
                     exact absurd H (by simp)
                 · rw [if_neg c14] at H
                   exact absurd H (by simp)
               · rw [if_neg c12] at H
                 exact absurd H (by simp)
             · rw [if_neg c11] at H
               exact absurd H (by simp)
           · rw [if_neg c10] at H
             exact absurd H (by simp)
         · rw [if_neg c8] at H
           exact absurd H (by simp)
       · rw [if_neg c7] at H
         exact absurd H (by simp)
     · rw [if_neg c6] at H
       exact absurd H (by simp)
   · rw [if_neg c5] at H
     exact absurd H (by simp)
 · rw [if_neg c3] at H
   have c3b0 : (a1_2 == 0) = false := beq_eq_false_iff_ne.mpr c3
   have c3b1 : (a1_2 != 0) = true := bne_iff_ne.mpr c3
   by_cases c18 : a1_2 = 3
   · rw [if_pos c18] at H
     have c18b0 : (a1_2 == 3) = true := beq_iff_eq.mpr c18
     have c18b1 : (a1_2 != 3) = false := bne_eq_false_iff_eq.mpr c18
     clear c18
     by_cases c19 : 0 ≤ a1_0
     · rw [if_pos c19] at H
       have c19b0 : decide (0 ≤ a1_0) = true := decide_eq_true c19
       clear c19
       by_cases c20 : a1_0 < (l0.length : Int)
       · rw [if_pos c20] at H
         have c20b0 : decide (a1_0 < (l0.length : Int)) = true := decide_eq_true c20
         clear c20
         obtain ⟨ji21, hji21⟩ : ∃ j_ : Int, (wrap64 (a1_1 - 1)) = j_ := ⟨_, rfl⟩
         replace H : (if 0 ≤ (ji21) then (if (ji21) < ((rd_L1 l0 a1_0).length : Int) then (if 0 ≤ (mx (wrap64 (a1_0 - 1)) 0) then (if (mx (wrap64 (a1_0 - 1)) 0) < (l0.length : Int) then (if (ji21) < ((rd_L1 l0 (mx (wrap64 (a1_0 - 1)) 0)).length : Int) then (if a1_2 = 2 then (if 0 ≤ (mx (wrap64 ((ji21) - 1)) 0) then (if (mx (wrap64 ((ji21) - 1)) 0) < ((rd_L1 l0 a1_0).length : Int) then (some (((wrap64 ((rd (rd_L1 l0 a1_0) (ji21)) - (rd (rd_L1 l0 a1_0) (mx (wrap64 ((ji21) - 1)) 0)))) == 1) == ((Int.tmod (wrap64 (a1_0 + (ji21))) 2) == 1))) else (none)) else (none)) else (some (((wrap64 ((rd (rd_L1 l0 a1_0) (ji21)) - (rd (rd_L1 l0 (mx (wrap64 (a1_0 - 1)) 0)) (ji21)))) == 1) == ((Int.tmod (wrap64 (a1_0 + (ji21))) 2) == 0)))) else (none)) else (none)) else (none)) else (none)) else (none)) = some r := by first | (rw [hji21] at H; exact H) | (simp only [hji21] at H ⊢; exact H)
         have hji21w : (IntKind.i64.wrap (a1_1 - 1)) = ji21 := (i64_w _).trans hji21
         by_cases c22 : 0 ≤ (ji21)
         · rw [if_pos c22] at H
           have c22b0 : decide (0 ≤ (ji21)) = true := decide_eq_true c22
           clear c22
           by_cases c23 : (ji21) < ((rd_L1 l0 a1_0).length : Int)
           · rw [if_pos c23] at H
             have c23b0 : decide ((ji21) < ((rd_L1 l0 a1_0).length : Int)) = true := decide_eq_true c23
             clear c23
             obtain ⟨ji24, hji24⟩ : ∃ j_ : Int, (mx (wrap64 (a1_0 - 1)) 0) = j_ := ⟨_, rfl⟩
             replace H : (if 0 ≤ (ji24) then (if (ji24) < (l0.length : Int) then (if (ji21) < ((rd_L1 l0 (ji24)).length : Int) then (if a1_2 = 2 then (if 0 ≤ (mx (wrap64 ((ji21) - 1)) 0) then (if (mx (wrap64 ((ji21) - 1)) 0) < ((rd_L1 l0 a1_0).length : Int) then (some (((wrap64 ((rd (rd_L1 l0 a1_0) (ji21)) - (rd (rd_L1 l0 a1_0) (mx (wrap64 ((ji21) - 1)) 0)))) == 1) == ((Int.tmod (wrap64 (a1_0 + (ji21))) 2) == 1))) else (none)) else (none)) else (some (((wrap64 ((rd (rd_L1 l0 a1_0) (ji21)) - (rd (rd_L1 l0 (ji24)) (ji21)))) == 1) == ((Int.tmod (wrap64 (a1_0 + (ji21))) 2) == 0)))) else (none)) else (none)) else (none)) = some r := by first | (rw [hji24] at H; exact H) | (simp only [hji24] at H ⊢; exact H)
             (try (have hji24l : 0 ≤ ji24 := by (rw [← hji24]; unfold mx; (repeat' split) <;> omega)))
             (try (have hji24m : 0 ≤ ji24 := by omega))
             have hji24_ : (if (wrap64 (a1_0 - 1)) < 0 then 0 else (wrap64 (a1_0 - 1))) = ji24 := hji24
             by_cases c25 : 0 ≤ (ji24)
             · rw [if_pos c25] at H
               have c25b0 : decide (0 ≤ (ji24)) = true := decide_eq_true c25
               clear c25
               by_cases c26 : (ji24) < (l0.length : Int)
               · rw [if_pos c26] at H
                 have c26b0 : decide ((ji24) < (l0.length : Int)) = true := decide_eq_true c26
                 clear c26
                 by_cases c27 : (ji21) < ((rd_L1 l0 (ji24)).length : Int)
                 · rw [if_pos c27] at H
                   have c27b0 : decide ((ji21) < ((rd_L1 l0 (ji24)).length : Int)) = true := decide_eq_true c27
                   clear c27
                   by_cases c28 : a1_2 = 2
                   · rw [if_pos c28] at H
                     have c28b0 : (a1_2 == 2) = true := beq_iff_eq.mpr c28
                     have c28b1 : (a1_2 != 2) = false := bne_eq_false_iff_eq.mpr c28
                     clear c28
                     obtain ⟨ji29, hji29⟩ : ∃ j_ : Int, (mx (wrap64 ((ji21) - 1)) 0) = j_ := ⟨_, rfl⟩
                     replace H : (if 0 ≤ (ji29) then (if (ji29) < ((rd_L1 l0 a1_0).length : Int) then (some (((wrap64 ((rd (rd_L1 l0 a1_0) (ji21)) - (rd (rd_L1 l0 a1_0) (ji29)))) == 1) == ((Int.tmod (wrap64 (a1_0 + (ji21))) 2) == 1))) else (none)) else (none)) = some r := by first | (rw [hji29] at H; exact H) | (simp only [hji29] at H ⊢; exact H)
                     have hji29_ : (if (wrap64 ((ji21) - 1)) < 0 then 0 else (wrap64 ((ji21) - 1))) = ji29 := hji29
                     by_cases c30 : 0 ≤ (ji29)
                     · rw [if_pos c30] at H
                       have c30b0 : decide (0 ≤ (ji29)) = true := decide_eq_true c30
                       clear c30
                       by_cases c31 : (ji29) < ((rd_L1 l0 a1_0).length : Int)
                       · rw [if_pos c31] at H
                         have c31b0 : decide ((ji29) < ((rd_L1 l0 a1_0).length : Int)) = true := decide_eq_true c31
                         clear c31
                         obtain rfl := Option.some.inj H
                         go_enter Try.func77, Try.ntmps77
                         go_wp2_with (first | ((with_reducible refine gate_dst (N := 3) rfl ?_); refine box_event ?hg (N := 3) ?hd (cs := #[.int .i64 a1_0, .int .i64 a1_1, .int .i64 a1_2]) (t := 73) ?hr ?_; (case hd => rfl); (case hg => rfl); (case hr => first | (go_simp; done) | (go_simp; rfl)); intro gb253 hg w32 hbox hb; have n0_ := Aside0.mk (below_step (by repeat (first | (with_reducible first | exact HB.out | apply below_alloc | apply pw_below_drewN | apply below_drew1) | exact HB.out)) hb); have n1_ := Aside0.mk (hbox); have n2_ := Aside0.mk ((by rw [hg]; exact (below_size (by repeat (first | (with_reducible first | exact HB.out | apply below_alloc | apply pw_below_drewN | apply below_drew1) | exact HB.out))) : w.heap.size ≤ gb253)); have n3_ := Aside0.mk ((by rw [hg]; exact (below_size (by repeat (first | (with_reducible first | exact HB.out | apply below_alloc | apply pw_below_drewN | apply below_drew1) | exact HB.out))) : w.heap.size ≤ gb253)); clear HB; have HB := n0_; have BK253 := n1_; have GW253 := n2_; have GE253 := n3_; clear n0_ n1_ n2_ n3_; clear hb hbox hg; have hcz33_0 : w32.cell? ⟨gb253, 0, none⟩ = some (.int .i64 a1_0) := (blk_cell BK253.out 0).trans rfl; have hcz33_1 : w32.cell? ⟨gb253, 1, none⟩ = some (.int .i64 a1_1) := (blk_cell BK253.out 1).trans rfl; have hcz33_2 : w32.cell? ⟨gb253, 2, none⟩ = some (.int .i64 a1_2) := (blk_cell BK253.out 2).trans rfl; have hfz33_0 := blk_frozen BK253.out 0; have hfz33_1 := blk_frozen BK253.out 1; have hfz33_2 := blk_frozen BK253.out 2; have p262 : 0 ≤ (a1_0 : Int) := of_decide_eq_true (by first | (with_reducible assumption) | assumption); have q262 : a1_0 < (l0.length : Int) := of_decide_eq_true (by first | (with_reducible assumption) | assumption); obtain ⟨ad262, A262_0, c262_0, e262, hx262_0, hl262_0, hi262_0⟩ := at_L1 HR0.out a1_0 p262 q262; cases e262; replace hx262_0 := (HB.out.cell (World.block_lt_of_cell? w _ hx262_0)).trans hx262_0; have HR262_0 := Aside0.mk hi262_0; have HC262_0 := Aside0.mk hl262_0; clear hi262_0 hl262_0; replace p262 := eq_true p262; replace q262 := eq_true q262; have p263 : 0 ≤ ((ji21) : Int) := of_decide_eq_true (by first | (with_reducible assumption) | assumption); have q263 : (ji21) < ((rd_L1 l0 a1_0).length : Int) := of_decide_eq_true (by first | (with_reducible assumption) | assumption); obtain ⟨ad263, e263, hx263_0⟩ := Kd.at_int HR262_0.out (ji21) p263 q263; cases e263; replace hx263_0 := (HB.out.cell (World.block_lt_of_cell? w _ hx263_0)).trans hx263_0; replace p263 := eq_true p263; replace q263 := eq_true q263; have p264 : 0 ≤ ((ji24) : Int) := of_decide_eq_true (by first | (with_reducible assumption) | assumption); have q264 : (ji24) < (l0.length : Int) := of_decide_eq_true (by first | (with_reducible assumption) | assumption); obtain ⟨ad264, A264_0, c264_0, e264, hx264_0, hl264_0, hi264_0⟩ := at_L1 HR0.out (ji24) p264 q264; obtain rfl : ad262 = ad264 := (by injection e264); replace hx264_0 := (HB.out.cell (World.block_lt_of_cell? w _ hx264_0)).trans hx264_0; have HR264_0 := Aside0.mk hi264_0; have HC264_0 := Aside0.mk hl264_0; clear hi264_0 hl264_0; replace p264 := eq_true p264; replace q264 := eq_true q264; have p265 : 0 ≤ ((ji21) : Int) := of_decide_eq_true (by first | (with_reducible assumption) | assumption); have q265 : (ji21) < ((rd_L1 l0 (ji24)).length : Int) := of_decide_eq_true (by first | (with_reducible assumption) | assumption); obtain ⟨ad265, e265, hx265_0⟩ := Kd.at_int HR264_0.out (ji21) p265 q265; cases e265; replace hx265_0 := (HB.out.cell (World.block_lt_of_cell? w _ hx265_0)).trans hx265_0; replace p265 := eq_true p265; replace q265 := eq_true q265; have p266 : 0 ≤ (a1_0 : Int) := of_decide_eq_true (by first | (with_reducible assumption) | assumption); have q266 : a1_0 < (l0.length : Int) := of_decide_eq_true (by first | (with_reducible assumption) | assumption); obtain ⟨ad266, A266_0, c266_0, e266, hx266_0, hl266_0, hi266_0⟩ := at_L1 HR0.out a1_0 p266 q266; obtain rfl : ad262 = ad266 := (by injection e266); replace hx266_0 := (HB.out.cell (World.block_lt_of_cell? w _ hx266_0)).trans hx266_0; have HR266_0 := Aside0.mk hi266_0; have HC266_0 := Aside0.mk hl266_0; clear hi266_0 hl266_0; replace p266 := eq_true p266; replace q266 := eq_true q266; have ea_ := Option.some.inj (hx262_0.symm.trans hx266_0); injection ea_ with ea_ en_ ec_; subst ea_; subst ec_; clear en_; have p267 : 0 ≤ ((ji21) : Int) := of_decide_eq_true (by first | (with_reducible assumption) | assumption); have q267 : (ji21) < ((rd_L1 l0 a1_0).length : Int) := of_decide_eq_true (by first | (with_reducible assumption) | assumption); obtain ⟨ad267, e267, hx267_0⟩ := Kd.at_int HR266_0.out (ji21) p267 q267; cases e267; replace hx267_0 := (HB.out.cell (World.block_lt_of_cell? w _ hx267_0)).trans hx267_0; replace p267 := eq_true p267; replace q267 := eq_true q267; have p268 : 0 ≤ (a1_0 : Int) := of_decide_eq_true (by first | (with_reducible assumption) | assumption); have q268 : a1_0 < (l0.length : Int) := of_decide_eq_true (by first | (with_reducible assumption) | assumption); obtain ⟨ad268, A268_0, c268_0, e268, hx268_0, hl268_0, hi268_0⟩ := at_L1 HR0.out a1_0 p268 q268; obtain rfl : ad262 = ad268 := (by injection e268); replace hx268_0 := (HB.out.cell (World.block_lt_of_cell? w _ hx268_0)).trans hx268_0; have HR268_0 := Aside0.mk hi268_0; have HC268_0 := Aside0.mk hl268_0; clear hi268_0 hl268_0; replace p268 := eq_true p268; replace q268 := eq_true q268; have ea_ := Option.some.inj (hx262_0.symm.trans hx268_0); injection ea_ with ea_ en_ ec_; subst ea_; subst ec_; clear en_; have p269 : 0 ≤ ((ji29) : Int) := of_decide_eq_true (by first | (with_reducible assumption) | assumption); have q269 : (ji29) < ((rd_L1 l0 a1_0).length : Int) := of_decide_eq_true (by first | (with_reducible assumption) | assumption); obtain ⟨ad269, e269, hx269_0⟩ := Kd.at_int HR268_0.out (ji29) p269 q269; cases e269; replace hx269_0 := (HB.out.cell (World.block_lt_of_cell? w _ hx269_0)).trans hx269_0; replace p269 := eq_true p269; replace q269 := eq_true q269))
                         repeat (go_quiet (first | ((with_reducible refine gate_dst (N := 3) rfl ?_); refine box_event ?hg (N := 3) ?hd (cs := #[.int .i64 a1_0, .int .i64 a1_1, .int .i64 a1_2]) (t := 73) ?hr ?_; (case hd => rfl); (case hg => rfl); (case hr => first | (go_simp; done) | (go_simp; rfl)); intro gb253 hg w32 hbox hb; have n0_ := Aside0.mk (below_step (by repeat (first | (with_reducible first | exact HB.out | apply below_alloc | apply pw_below_drewN | apply below_drew1) | exact HB.out)) hb); have n1_ := Aside0.mk (hbox); have n2_ := Aside0.mk ((by rw [hg]; exact (below_size (by repeat (first | (with_reducible first | exact HB.out | apply below_alloc | apply pw_below_drewN | apply below_drew1) | exact HB.out))) : w.heap.size ≤ gb253)); have n3_ := Aside0.mk ((by rw [hg]; exact (below_size (by repeat (first | (with_reducible first | exact HB.out | apply below_alloc | apply pw_below_drewN | apply below_drew1) | exact HB.out))) : w.heap.size ≤ gb253)); clear HB; have HB := n0_; have BK253 := n1_; have GW253 := n2_; have GE253 := n3_; clear n0_ n1_ n2_ n3_; clear hb hbox hg; have hcz33_0 : w32.cell? ⟨gb253, 0, none⟩ = some (.int .i64 a1_0) := (blk_cell BK253.out 0).trans rfl; have hcz33_1 : w32.cell? ⟨gb253, 1, none⟩ = some (.int .i64 a1_1) := (blk_cell BK253.out 1).trans rfl; have hcz33_2 : w32.cell? ⟨gb253, 2, none⟩ = some (.int .i64 a1_2) := (blk_cell BK253.out 2).trans rfl; have hfz33_0 := blk_frozen BK253.out 0; have hfz33_1 := blk_frozen BK253.out 1; have hfz33_2 := blk_frozen BK253.out 2; have p262 : 0 ≤ (a1_0 : Int) := of_decide_eq_true (by first | (with_reducible assumption) | assumption); have q262 : a1_0 < (l0.length : Int) := of_decide_eq_true (by first | (with_reducible assumption) | assumption); obtain ⟨ad262, A262_0, c262_0, e262, hx262_0, hl262_0, hi262_0⟩ := at_L1 HR0.out a1_0 p262 q262; cases e262; replace hx262_0 := (HB.out.cell (World.block_lt_of_cell? w _ hx262_0)).trans hx262_0; have HR262_0 := Aside0.mk hi262_0; have HC262_0 := Aside0.mk hl262_0; clear hi262_0 hl262_0; replace p262 := eq_true p262; replace q262 := eq_true q262; have p263 : 0 ≤ ((ji21) : Int) := of_decide_eq_true (by first | (with_reducible assumption) | assumption); have q263 : (ji21) < ((rd_L1 l0 a1_0).length : Int) := of_decide_eq_true (by first | (with_reducible assumption) | assumption); obtain ⟨ad263, e263, hx263_0⟩ := Kd.at_int HR262_0.out (ji21) p263 q263; cases e263; replace hx263_0 := (HB.out.cell (World.block_lt_of_cell? w _ hx263_0)).trans hx263_0; replace p263 := eq_true p263; replace q263 := eq_true q263; have p264 : 0 ≤ ((ji24) : Int) := of_decide_eq_true (by first | (with_reducible assumption) | assumption); have q264 : (ji24) < (l0.length : Int) := of_decide_eq_true (by first | (with_reducible assumption) | assumption); obtain ⟨ad264, A264_0, c264_0, e264, hx264_0, hl264_0, hi264_0⟩ := at_L1 HR0.out (ji24) p264 q264; obtain rfl : ad262 = ad264 := (by injection e264); replace hx264_0 := (HB.out.cell (World.block_lt_of_cell? w _ hx264_0)).trans hx264_0; have HR264_0 := Aside0.mk hi264_0; have HC264_0 := Aside0.mk hl264_0; clear hi264_0 hl264_0; replace p264 := eq_true p264; replace q264 := eq_true q264; have p265 : 0 ≤ ((ji21) : Int) := of_decide_eq_true (by first | (with_reducible assumption) | assumption); have q265 : (ji21) < ((rd_L1 l0 (ji24)).length : Int) := of_decide_eq_true (by first | (with_reducible assumption) | assumption); obtain ⟨ad265, e265, hx265_0⟩ := Kd.at_int HR264_0.out (ji21) p265 q265; cases e265; replace hx265_0 := (HB.out.cell (World.block_lt_of_cell? w _ hx265_0)).trans hx265_0; replace p265 := eq_true p265; replace q265 := eq_true q265; have p266 : 0 ≤ (a1_0 : Int) := of_decide_eq_true (by first | (with_reducible assumption) | assumption); have q266 : a1_0 < (l0.length : Int) := of_decide_eq_true (by first | (with_reducible assumption) | assumption); obtain ⟨ad266, A266_0, c266_0, e266, hx266_0, hl266_0, hi266_0⟩ := at_L1 HR0.out a1_0 p266 q266; obtain rfl : ad262 = ad266 := (by injection e266); replace hx266_0 := (HB.out.cell (World.block_lt_of_cell? w _ hx266_0)).trans hx266_0; have HR266_0 := Aside0.mk hi266_0; have HC266_0 := Aside0.mk hl266_0; clear hi266_0 hl266_0; replace p266 := eq_true p266; replace q266 := eq_true q266; have ea_ := Option.some.inj (hx262_0.symm.trans hx266_0); injection ea_ with ea_ en_ ec_; subst ea_; subst ec_; clear en_; have p267 : 0 ≤ ((ji21) : Int) := of_decide_eq_true (by first | (with_reducible assumption) | assumption); have q267 : (ji21) < ((rd_L1 l0 a1_0).length : Int) := of_decide_eq_true (by first | (with_reducible assumption) | assumption); obtain ⟨ad267, e267, hx267_0⟩ := Kd.at_int HR266_0.out (ji21) p267 q267; cases e267; replace hx267_0 := (HB.out.cell (World.block_lt_of_cell? w _ hx267_0)).trans hx267_0; replace p267 := eq_true p267; replace q267 := eq_true q267; have p268 : 0 ≤ (a1_0 : Int) := of_decide_eq_true (by first | (with_reducible assumption) | assumption); have q268 : a1_0 < (l0.length : Int) := of_decide_eq_true (by first | (with_reducible assumption) | assumption); obtain ⟨ad268, A268_0, c268_0, e268, hx268_0, hl268_0, hi268_0⟩ := at_L1 HR0.out a1_0 p268 q268; obtain rfl : ad262 = ad268 := (by injection e268); replace hx268_0 := (HB.out.cell (World.block_lt_of_cell? w _ hx268_0)).trans hx268_0; have HR268_0 := Aside0.mk hi268_0; have HC268_0 := Aside0.mk hl268_0; clear hi268_0 hl268_0; replace p268 := eq_true p268; replace q268 := eq_true q268; have ea_ := Option.some.inj (hx262_0.symm.trans hx268_0); injection ea_ with ea_ en_ ec_; subst ea_; subst ec_; clear en_; have p269 : 0 ≤ ((ji29) : Int) := of_decide_eq_true (by first | (with_reducible assumption) | assumption); have q269 : (ji29) < ((rd_L1 l0 a1_0).length : Int) := of_decide_eq_true (by first | (with_reducible assumption) | assumption); obtain ⟨ad269, e269, hx269_0⟩ := Kd.at_int HR268_0.out (ji29) p269 q269; cases e269; replace hx269_0 := (HB.out.cell (World.block_lt_of_cell? w _ hx269_0)).trans hx269_0; replace p269 := eq_true p269; replace q269 := eq_true q269)); try go_wp2_with (first | ((with_reducible refine gate_dst (N := 3) rfl ?_); refine box_event ?hg (N := 3) ?hd (cs := #[.int .i64 a1_0, .int .i64 a1_1, .int .i64 a1_2]) (t := 73) ?hr ?_; (case hd => rfl); (case hg => rfl); (case hr => first | (go_simp; done) | (go_simp; rfl)); intro gb253 hg w32 hbox hb; have n0_ := Aside0.mk (below_step (by repeat (first | (with_reducible first | exact HB.out | apply below_alloc | apply pw_below_drewN | apply below_drew1) | exact HB.out)) hb); have n1_ := Aside0.mk (hbox); have n2_ := Aside0.mk ((by rw [hg]; exact (below_size (by repeat (first | (with_reducible first | exact HB.out | apply below_alloc | apply pw_below_drewN | apply below_drew1) | exact HB.out))) : w.heap.size ≤ gb253)); have n3_ := Aside0.mk ((by rw [hg]; exact (below_size (by repeat (first | (with_reducible first | exact HB.out | apply below_alloc | apply pw_below_drewN | apply below_drew1) | exact HB.out))) : w.heap.size ≤ gb253)); clear HB; have HB := n0_; have BK253 := n1_; have GW253 := n2_; have GE253 := n3_; clear n0_ n1_ n2_ n3_; clear hb hbox hg; have hcz33_0 : w32.cell? ⟨gb253, 0, none⟩ = some (.int .i64 a1_0) := (blk_cell BK253.out 0).trans rfl; have hcz33_1 : w32.cell? ⟨gb253, 1, none⟩ = some (.int .i64 a1_1) := (blk_cell BK253.out 1).trans rfl; have hcz33_2 : w32.cell? ⟨gb253, 2, none⟩ = some (.int .i64 a1_2) := (blk_cell BK253.out 2).trans rfl; have hfz33_0 := blk_frozen BK253.out 0; have hfz33_1 := blk_frozen BK253.out 1; have hfz33_2 := blk_frozen BK253.out 2; have p262 : 0 ≤ (a1_0 : Int) := of_decide_eq_true (by first | (with_reducible assumption) | assumption); have q262 : a1_0 < (l0.length : Int) := of_decide_eq_true (by first | (with_reducible assumption) | assumption); obtain ⟨ad262, A262_0, c262_0, e262, hx262_0, hl262_0, hi262_0⟩ := at_L1 HR0.out a1_0 p262 q262; cases e262; replace hx262_0 := (HB.out.cell (World.block_lt_of_cell? w _ hx262_0)).trans hx262_0; have HR262_0 := Aside0.mk hi262_0; have HC262_0 := Aside0.mk hl262_0; clear hi262_0 hl262_0; replace p262 := eq_true p262; replace q262 := eq_true q262; have p263 : 0 ≤ ((ji21) : Int) := of_decide_eq_true (by first | (with_reducible assumption) | assumption); have q263 : (ji21) < ((rd_L1 l0 a1_0).length : Int) := of_decide_eq_true (by first | (with_reducible assumption) | assumption); obtain ⟨ad263, e263, hx263_0⟩ := Kd.at_int HR262_0.out (ji21) p263 q263; cases e263; replace hx263_0 := (HB.out.cell (World.block_lt_of_cell? w _ hx263_0)).trans hx263_0; replace p263 := eq_true p263; replace q263 := eq_true q263; have p264 : 0 ≤ ((ji24) : Int) := of_decide_eq_true (by first | (with_reducible assumption) | assumption); have q264 : (ji24) < (l0.length : Int) := of_decide_eq_true (by first | (with_reducible assumption) | assumption); obtain ⟨ad264, A264_0, c264_0, e264, hx264_0, hl264_0, hi264_0⟩ := at_L1 HR0.out (ji24) p264 q264; obtain rfl : ad262 = ad264 := (by injection e264); replace hx264_0 := (HB.out.cell (World.block_lt_of_cell? w _ hx264_0)).trans hx264_0; have HR264_0 := Aside0.mk hi264_0; have HC264_0 := Aside0.mk hl264_0; clear hi264_0 hl264_0; replace p264 := eq_true p264; replace q264 := eq_true q264; have p265 : 0 ≤ ((ji21) : Int) := of_decide_eq_true (by first | (with_reducible assumption) | assumption); have q265 : (ji21) < ((rd_L1 l0 (ji24)).length : Int) := of_decide_eq_true (by first | (with_reducible assumption) | assumption); obtain ⟨ad265, e265, hx265_0⟩ := Kd.at_int HR264_0.out (ji21) p265 q265; cases e265; replace hx265_0 := (HB.out.cell (World.block_lt_of_cell? w _ hx265_0)).trans hx265_0; replace p265 := eq_true p265; replace q265 := eq_true q265; have p266 : 0 ≤ (a1_0 : Int) := of_decide_eq_true (by first | (with_reducible assumption) | assumption); have q266 : a1_0 < (l0.length : Int) := of_decide_eq_true (by first | (with_reducible assumption) | assumption); obtain ⟨ad266, A266_0, c266_0, e266, hx266_0, hl266_0, hi266_0⟩ := at_L1 HR0.out a1_0 p266 q266; obtain rfl : ad262 = ad266 := (by injection e266); replace hx266_0 := (HB.out.cell (World.block_lt_of_cell? w _ hx266_0)).trans hx266_0; have HR266_0 := Aside0.mk hi266_0; have HC266_0 := Aside0.mk hl266_0; clear hi266_0 hl266_0; replace p266 := eq_true p266; replace q266 := eq_true q266; have ea_ := Option.some.inj (hx262_0.symm.trans hx266_0); injection ea_ with ea_ en_ ec_; subst ea_; subst ec_; clear en_; have p267 : 0 ≤ ((ji21) : Int) := of_decide_eq_true (by first | (with_reducible assumption) | assumption); have q267 : (ji21) < ((rd_L1 l0 a1_0).length : Int) := of_decide_eq_true (by first | (with_reducible assumption) | assumption); obtain ⟨ad267, e267, hx267_0⟩ := Kd.at_int HR266_0.out (ji21) p267 q267; cases e267; replace hx267_0 := (HB.out.cell (World.block_lt_of_cell? w _ hx267_0)).trans hx267_0; replace p267 := eq_true p267; replace q267 := eq_true q267; have p268 : 0 ≤ (a1_0 : Int) := of_decide_eq_true (by first | (with_reducible assumption) | assumption); have q268 : a1_0 < (l0.length : Int) := of_decide_eq_true (by first | (with_reducible assumption) | assumption); obtain ⟨ad268, A268_0, c268_0, e268, hx268_0, hl268_0, hi268_0⟩ := at_L1 HR0.out a1_0 p268 q268; obtain rfl : ad262 = ad268 := (by injection e268); replace hx268_0 := (HB.out.cell (World.block_lt_of_cell? w _ hx268_0)).trans hx268_0; have HR268_0 := Aside0.mk hi268_0; have HC268_0 := Aside0.mk hl268_0; clear hi268_0 hl268_0; replace p268 := eq_true p268; replace q268 := eq_true q268; have ea_ := Option.some.inj (hx262_0.symm.trans hx268_0); injection ea_ with ea_ en_ ec_; subst ea_; subst ec_; clear en_; have p269 : 0 ≤ ((ji29) : Int) := of_decide_eq_true (by first | (with_reducible assumption) | assumption); have q269 : (ji29) < ((rd_L1 l0 a1_0).length : Int) := of_decide_eq_true (by first | (with_reducible assumption) | assumption); obtain ⟨ad269, e269, hx269_0⟩ := Kd.at_int HR268_0.out (ji29) p269 q269; cases e269; replace hx269_0 := (HB.out.cell (World.block_lt_of_cell? w _ hx269_0)).trans hx269_0; replace p269 := eq_true p269; replace q269 := eq_true q269)))
                         go_ret
                         exact ⟨by first | rfl | (simp [errW_none, errW_some] <;> rfl) | (simp only [← hji21, ← hji24, ← hji29]; first | rfl | (simp [errW_none, errW_some] <;> rfl)) | (simp [*, errW_none, errW_some] <;> rfl), by repeat (first | (with_reducible first | exact HB.out | apply below_alloc | apply pw_below_drewN | apply below_drew1 | refine below_set ?_ GE253.out) | exact HB.out)⟩
                       · rw [if_neg c31] at H
                         exact absurd H (by simp)
                     · rw [if_neg c30] at H
                       exact absurd H (by simp)
                   · rw [if_neg c28] at H
                     have c28b0 : (a1_2 == 2) = false := beq_eq_false_iff_ne.mpr c28
                     have c28b1 : (a1_2 != 2) = true := bne_iff_ne.mpr c28
                     obtain rfl := Option.some.inj H
                     go_enter Try.func77, Try.ntmps77
                     go_wp2_with (first | ((with_reducible refine gate_dst (N := 3) rfl ?_); refine box_event ?hg (N := 3) ?hd (cs := #[.int .i64 a1_0, .int .i64 a1_1, .int .i64 a1_2]) (t := 73) ?hr ?_; (case hd => rfl); (case hg => rfl); (case hr => first | (go_simp; done) | (go_simp; rfl)); intro gb253 hg w34 hbox hb; have n0_ := Aside0.mk (below_step (by repeat (first | (with_reducible first | exact HB.out | apply below_alloc | apply pw_below_drewN | apply below_drew1) | exact HB.out)) hb); have n1_ := Aside0.mk (hbox); have n2_ := Aside0.mk ((by rw [hg]; exact (below_size (by repeat (first | (with_reducible first | exact HB.out | apply below_alloc | apply pw_below_drewN | apply below_drew1) | exact HB.out))) : w.heap.size ≤ gb253)); have n3_ := Aside0.mk ((by rw [hg]; exact (below_size (by repeat (first | (with_reducible first | exact HB.out | apply below_alloc | apply pw_below_drewN | apply below_drew1) | exact HB.out))) : w.heap.size ≤ gb253)); clear HB; have HB := n0_; have BK253 := n1_; have GW253 := n2_; have GE253 := n3_; clear n0_ n1_ n2_ n3_; clear hb hbox hg; have hcz35_0 : w34.cell? ⟨gb253, 0, none⟩ = some (.int .i64 a1_0) := (blk_cell BK253.out 0).trans rfl; have hcz35_1 : w34.cell? ⟨gb253, 1, none⟩ = some (.int .i64 a1_1) := (blk_cell BK253.out 1).trans rfl; have hcz35_2 : w34.cell? ⟨gb253, 2, none⟩ = some (.int .i64 a1_2) := (blk_cell BK253.out 2).trans rfl; have hfz35_0 := blk_frozen BK253.out 0; have hfz35_1 := blk_frozen BK253.out 1; have hfz35_2 := blk_frozen BK253.out 2; have p262 : 0 ≤ (a1_0 : Int) := of_decide_eq_true (by first | (with_reducible assumption) | assumption); have q262 : a1_0 < (l0.length : Int) := of_decide_eq_true (by first | (with_reducible assumption) | assumption); obtain ⟨ad262, A262_0, c262_0, e262, hx262_0, hl262_0, hi262_0⟩ := at_L1 HR0.out a1_0 p262 q262; cases e262; replace hx262_0 := (HB.out.cell (World.block_lt_of_cell? w _ hx262_0)).trans hx262_0; have HR262_0 := Aside0.mk hi262_0; have HC262_0 := Aside0.mk hl262_0; clear hi262_0 hl262_0; replace p262 := eq_true p262; replace q262 := eq_true q262; have p263 : 0 ≤ ((ji21) : Int) := of_decide_eq_true (by first | (with_reducible assumption) | assumption); have q263 : (ji21) < ((rd_L1 l0 a1_0).length : Int) := of_decide_eq_true (by first | (with_reducible assumption) | assumption); obtain ⟨ad263, e263, hx263_0⟩ := Kd.at_int HR262_0.out (ji21) p263 q263; cases e263; replace hx263_0 := (HB.out.cell (World.block_lt_of_cell? w _ hx263_0)).trans hx263_0; replace p263 := eq_true p263; replace q263 := eq_true q263; have p264 : 0 ≤ ((ji24) : Int) := of_decide_eq_true (by first | (with_reducible assumption) | assumption); have q264 : (ji24) < (l0.length : Int) := of_decide_eq_true (by first | (with_reducible assumption) | assumption); obtain ⟨ad264, A264_0, c264_0, e264, hx264_0, hl264_0, hi264_0⟩ := at_L1 HR0.out (ji24) p264 q264; obtain rfl : ad262 = ad264 := (by injection e264); replace hx264_0 := (HB.out.cell (World.block_lt_of_cell? w _ hx264_0)).trans hx264_0; have HR264_0 := Aside0.mk hi264_0; have HC264_0 := Aside0.mk hl264_0; clear hi264_0 hl264_0; replace p264 := eq_true p264; replace q264 := eq_true q264; have p265 : 0 ≤ ((ji21) : Int) := of_decide_eq_true (by first | (with_reducible assumption) | assumption); have q265 : (ji21) < ((rd_L1 l0 (ji24)).length : Int) := of_decide_eq_true (by first | (with_reducible assumption) | assumption); obtain ⟨ad265, e265, hx265_0⟩ := Kd.at_int HR264_0.out (ji21) p265 q265; cases e265; replace hx265_0 := (HB.out.cell (World.block_lt_of_cell? w _ hx265_0)).trans hx265_0; replace p265 := eq_true p265; replace q265 := eq_true q265))
                     repeat (go_quiet (first | ((with_reducible refine gate_dst (N := 3) rfl ?_); refine box_event ?hg (N := 3) ?hd (cs := #[.int .i64 a1_0, .int .i64 a1_1, .int .i64 a1_2]) (t := 73) ?hr ?_; (case hd => rfl); (case hg => rfl); (case hr => first | (go_simp; done) | (go_simp; rfl)); intro gb253 hg w34 hbox hb; have n0_ := Aside0.mk (below_step (by repeat (first | (with_reducible first | exact HB.out | apply below_alloc | apply pw_below_drewN | apply below_drew1) | exact HB.out)) hb); have n1_ := Aside0.mk (hbox); have n2_ := Aside0.mk ((by rw [hg]; exact (below_size (by repeat (first | (with_reducible first | exact HB.out | apply below_alloc | apply pw_below_drewN | apply below_drew1) | exact HB.out))) : w.heap.size ≤ gb253)); have n3_ := Aside0.mk ((by rw [hg]; exact (below_size (by repeat (first | (with_reducible first | exact HB.out | apply below_alloc | apply pw_below_drewN | apply below_drew1) | exact HB.out))) : w.heap.size ≤ gb253)); clear HB; have HB := n0_; have BK253 := n1_; have GW253 := n2_; have GE253 := n3_; clear n0_ n1_ n2_ n3_; clear hb hbox hg; have hcz35_0 : w34.cell? ⟨gb253, 0, none⟩ = some (.int .i64 a1_0) := (blk_cell BK253.out 0).trans rfl; have hcz35_1 : w34.cell? ⟨gb253, 1, none⟩ = some (.int .i64 a1_1) := (blk_cell BK253.out 1).trans rfl; have hcz35_2 : w34.cell? ⟨gb253, 2, none⟩ = some (.int .i64 a1_2) := (blk_cell BK253.out 2).trans rfl; have hfz35_0 := blk_frozen BK253.out 0; have hfz35_1 := blk_frozen BK253.out 1; have hfz35_2 := blk_frozen BK253.out 2; have p262 : 0 ≤ (a1_0 : Int) := of_decide_eq_true (by first | (with_reducible assumption) | assumption); have q262 : a1_0 < (l0.length : Int) := of_decide_eq_true (by first | (with_reducible assumption) | assumption); obtain ⟨ad262, A262_0, c262_0, e262, hx262_0, hl262_0, hi262_0⟩ := at_L1 HR0.out a1_0 p262 q262; cases e262; replace hx262_0 := (HB.out.cell (World.block_lt_of_cell? w _ hx262_0)).trans hx262_0; have HR262_0 := Aside0.mk hi262_0; have HC262_0 := Aside0.mk hl262_0; clear hi262_0 hl262_0; replace p262 := eq_true p262; replace q262 := eq_true q262; have p263 : 0 ≤ ((ji21) : Int) := of_decide_eq_true (by first | (with_reducible assumption) | assumption); have q263 : (ji21) < ((rd_L1 l0 a1_0).length : Int) := of_decide_eq_true (by first | (with_reducible assumption) | assumption); obtain ⟨ad263, e263, hx263_0⟩ := Kd.at_int HR262_0.out (ji21) p263 q263; cases e263; replace hx263_0 := (HB.out.cell (World.block_lt_of_cell? w _ hx263_0)).trans hx263_0; replace p263 := eq_true p263; replace q263 := eq_true q263; have p264 : 0 ≤ ((ji24) : Int) := of_decide_eq_true (by first | (with_reducible assumption) | assumption); have q264 : (ji24) < (l0.length : Int) := of_decide_eq_true (by first | (with_reducible assumption) | assumption); obtain ⟨ad264, A264_0, c264_0, e264, hx264_0, hl264_0, hi264_0⟩ := at_L1 HR0.out (ji24) p264 q264; obtain rfl : ad262 = ad264 := (by injection e264); replace hx264_0 := (HB.out.cell (World.block_lt_of_cell? w _ hx264_0)).trans hx264_0; have HR264_0 := Aside0.mk hi264_0; have HC264_0 := Aside0.mk hl264_0; clear hi264_0 hl264_0; replace p264 := eq_true p264; replace q264 := eq_true q264; have p265 : 0 ≤ ((ji21) : Int) := of_decide_eq_true (by first | (with_reducible assumption) | assumption); have q265 : (ji21) < ((rd_L1 l0 (ji24)).length : Int) := of_decide_eq_true (by first | (with_reducible assumption) | assumption); obtain ⟨ad265, e265, hx265_0⟩ := Kd.at_int HR264_0.out (ji21) p265 q265; cases e265; replace hx265_0 := (HB.out.cell (World.block_lt_of_cell? w _ hx265_0)).trans hx265_0; replace p265 := eq_true p265; replace q265 := eq_true q265)); try go_wp2_with (first | ((with_reducible refine gate_dst (N := 3) rfl ?_); refine box_event ?hg (N := 3) ?hd (cs := #[.int .i64 a1_0, .int .i64 a1_1, .int .i64 a1_2]) (t := 73) ?hr ?_; (case hd => rfl); (case hg => rfl); (case hr => first | (go_simp; done) | (go_simp; rfl)); intro gb253 hg w34 hbox hb; have n0_ := Aside0.mk (below_step (by repeat (first | (with_reducible first | exact HB.out | apply below_alloc | apply pw_below_drewN | apply below_drew1) | exact HB.out)) hb); have n1_ := Aside0.mk (hbox); have n2_ := Aside0.mk ((by rw [hg]; exact (below_size (by repeat (first | (with_reducible first | exact HB.out | apply below_alloc | apply pw_below_drewN | apply below_drew1) | exact HB.out))) : w.heap.size ≤ gb253)); have n3_ := Aside0.mk ((by rw [hg]; exact (below_size (by repeat (first | (with_reducible first | exact HB.out | apply below_alloc | apply pw_below_drewN | apply below_drew1) | exact HB.out))) : w.heap.size ≤ gb253)); clear HB; have HB := n0_; have BK253 := n1_; have GW253 := n2_; have GE253 := n3_; clear n0_ n1_ n2_ n3_; clear hb hbox hg; have hcz35_0 : w34.cell? ⟨gb253, 0, none⟩ = some (.int .i64 a1_0) := (blk_cell BK253.out 0).trans rfl; have hcz35_1 : w34.cell? ⟨gb253, 1, none⟩ = some (.int .i64 a1_1) := (blk_cell BK253.out 1).trans rfl; have hcz35_2 : w34.cell? ⟨gb253, 2, none⟩ = some (.int .i64 a1_2) := (blk_cell BK253.out 2).trans rfl; have hfz35_0 := blk_frozen BK253.out 0; have hfz35_1 := blk_frozen BK253.out 1; have hfz35_2 := blk_frozen BK253.out 2; have p262 : 0 ≤ (a1_0 : Int) := of_decide_eq_true (by first | (with_reducible assumption) | assumption); have q262 : a1_0 < (l0.length : Int) := of_decide_eq_true (by first | (with_reducible assumption) | assumption); obtain ⟨ad262, A262_0, c262_0, e262, hx262_0, hl262_0, hi262_0⟩ := at_L1 HR0.out a1_0 p262 q262; cases e262; replace hx262_0 := (HB.out.cell (World.block_lt_of_cell? w _ hx262_0)).trans hx262_0; have HR262_0 := Aside0.mk hi262_0; have HC262_0 := Aside0.mk hl262_0; clear hi262_0 hl262_0; replace p262 := eq_true p262; replace q262 := eq_true q262; have p263 : 0 ≤ ((ji21) : Int) := of_decide_eq_true (by first | (with_reducible assumption) | assumption); have q263 : (ji21) < ((rd_L1 l0 a1_0).length : Int) := of_decide_eq_true (by first | (with_reducible assumption) | assumption); obtain ⟨ad263, e263, hx263_0⟩ := Kd.at_int HR262_0.out (ji21) p263 q263; cases e263; replace hx263_0 := (HB.out.cell (World.block_lt_of_cell? w _ hx263_0)).trans hx263_0; replace p263 := eq_true p263; replace q263 := eq_true q263; have p264 : 0 ≤ ((ji24) : Int) := of_decide_eq_true (by first | (with_reducible assumption) | assumption); have q264 : (ji24) < (l0.length : Int) := of_decide_eq_true (by first | (with_reducible assumption) | assumption); obtain ⟨ad264, A264_0, c264_0, e264, hx264_0, hl264_0, hi264_0⟩ := at_L1 HR0.out (ji24) p264 q264; obtain rfl : ad262 = ad264 := (by injection e264); replace hx264_0 := (HB.out.cell (World.block_lt_of_cell? w _ hx264_0)).trans hx264_0; have HR264_0 := Aside0.mk hi264_0; have HC264_0 := Aside0.mk hl264_0; clear hi264_0 hl264_0; replace p264 := eq_true p264; replace q264 := eq_true q264; have p265 : 0 ≤ ((ji21) : Int) := of_decide_eq_true (by first | (with_reducible assumption) | assumption); have q265 : (ji21) < ((rd_L1 l0 (ji24)).length : Int) := of_decide_eq_true (by first | (with_reducible assumption) | assumption); obtain ⟨ad265, e265, hx265_0⟩ := Kd.at_int HR264_0.out (ji21) p265 q265; cases e265; replace hx265_0 := (HB.out.cell (World.block_lt_of_cell? w _ hx265_0)).trans hx265_0; replace p265 := eq_true p265; replace q265 := eq_true q265)))
                     go_ret
                     exact ⟨by first | rfl | (simp [errW_none, errW_some] <;> rfl) | (simp only [← hji21, ← hji24]; first | rfl | (simp [errW_none, errW_some] <;> rfl)) | (simp [*, errW_none, errW_some] <;> rfl), by repeat (first | (with_reducible first | exact HB.out | apply below_alloc | apply pw_below_drewN | apply below_drew1 | refine below_set ?_ GE253.out) | exact HB.out)⟩
                 · rw [if_neg c27] at H
                   exact absurd H (by simp)
               · rw [if_neg c26] at H
                 exact absurd H (by simp)
             · rw [if_neg c25] at H
               exact absurd H (by simp)
           · rw [if_neg c23] at H
             exact absurd H (by simp)
         · rw [if_neg c22] at H
           exact absurd H (by simp)
       · rw [if_neg c20] at H
         exact absurd H (by simp)
     · rw [if_neg c19] at H
       exact absurd H (by simp)
   · rw [if_neg c18] at H
     have c18b0 : (a1_2 == 3) = false := beq_eq_false_iff_ne.mpr c18
     have c18b1 : (a1_2 != 3) = true := bne_iff_ne.mpr c18
     by_cases c36 : 0 ≤ a1_0
     · rw [if_pos c36] at H
       have c36b0 : decide (0 ≤ a1_0) = true := decide_eq_true c36
       clear c36
       by_cases c37 : a1_0 < (l0.length : Int)
       · rw [if_pos c37] at H
         have c37b0 : decide (a1_0 < (l0.length : Int)) = true := decide_eq_true c37
         clear c37
         by_cases c38 : 0 ≤ a1_1
         · rw [if_pos c38] at H
           have c38b0 : decide (0 ≤ a1_1) = true := decide_eq_true c38
           clear c38
           by_cases c39 : a1_1 < ((rd_L1 l0 a1_0).length : Int)
           · rw [if_pos c39] at H
             have c39b0 : decide (a1_1 < ((rd_L1 l0 a1_0).length : Int)) = true := decide_eq_true c39
             clear c39
             obtain ⟨ji40, hji40⟩ : ∃ j_ : Int, (mx (wrap64 (a1_0 - 1)) 0) = j_ := ⟨_, rfl⟩
             replace H : (if 0 ≤ (ji40) then (if (ji40) < (l0.length : Int) then (if a1_1 < ((rd_L1 l0 (ji40)).length : Int) then (if a1_2 = 2 then (if 0 ≤ (mx (wrap64 (a1_1 - 1)) 0) then (if (mx (wrap64 (a1_1 - 1)) 0) < ((rd_L1 l0 a1_0).length : Int) then (some (((wrap64 ((rd (rd_L1 l0 a1_0) a1_1) - (rd (rd_L1 l0 a1_0) (mx (wrap64 (a1_1 - 1)) 0)))) == 1) == ((Int.tmod (wrap64 (a1_0 + a1_1)) 2) == 1))) else (none)) else (none)) else (some (((wrap64 ((rd (rd_L1 l0 a1_0) a1_1) - (rd (rd_L1 l0 (ji40)) a1_1))) == 1) == ((Int.tmod (wrap64 (a1_0 + a1_1)) 2) == 0)))) else (none)) else (none)) else (none)) = some r := by first | (rw [hji40] at H; exact H) | (simp only [hji40] at H ⊢; exact H)
             (try (have hji40l : 0 ≤ ji40 := by (rw [← hji40]; unfold mx; (repeat' split) <;> omega)))
             (try (have hji40m : 0 ≤ ji40 := by omega))
             have hji40_ : (if (wrap64 (a1_0 - 1)) < 0 then 0 else (wrap64 (a1_0 - 1))) = ji40 := hji40
             by_cases c41 : 0 ≤ (ji40)
             · rw [if_pos c41] at H
               have c41b0 : decide (0 ≤ (ji40)) = true := decide_eq_true c41
               clear c41
               by_cases c42 : (ji40) < (l0.length : Int)
               · rw [if_pos c42] at H
                 have c42b0 : decide ((ji40) < (l0.length : Int)) = true := decide_eq_true c42
                 clear c42
                 by_cases c43 : a1_1 < ((rd_L1 l0 (ji40)).length : Int)
                 · rw [if_pos c43] at H
                   have c43b0 : decide (a1_1 < ((rd_L1 l0 (ji40)).length : Int)) = true := decide_eq_true c43
                   clear c43
                   by_cases c44 : a1_2 = 2
                   · rw [if_pos c44] at H
                     have c44b0 : (a1_2 == 2) = true := beq_iff_eq.mpr c44
                     have c44b1 : (a1_2 != 2) = false := bne_eq_false_iff_eq.mpr c44
                     clear c44
                     obtain ⟨ji45, hji45⟩ : ∃ j_ : Int, (mx (wrap64 (a1_1 - 1)) 0) = j_ := ⟨_, rfl⟩
                     replace H : (if 0 ≤ (ji45) then (if (ji45) < ((rd_L1 l0 a1_0).length : Int) then (some (((wrap64 ((rd (rd_L1 l0 a1_0) a1_1) - (rd (rd_L1 l0 a1_0) (ji45)))) == 1) == ((Int.tmod (wrap64 (a1_0 + a1_1)) 2) == 1))) else (none)) else (none)) = some r := by first | (rw [hji45] at H; exact H) | (simp only [hji45] at H ⊢; exact H)
                     (try (have hji45l : 0 ≤ ji45 := by (rw [← hji45]; unfold mx; (repeat' split) <;> omega)))
                     (try (have hji45m : 0 ≤ ji45 := by omega))
                     have hji45_ : (if (wrap64 (a1_1 - 1)) < 0 then 0 else (wrap64 (a1_1 - 1))) = ji45 := hji45
                     by_cases c46 : 0 ≤ (ji45)
                     · rw [if_pos c46] at H
                       have c46b0 : decide (0 ≤ (ji45)) = true := decide_eq_true c46
                       clear c46
                       by_cases c47 : (ji45) < ((rd_L1 l0 a1_0).length : Int)
                       · rw [if_pos c47] at H
                         have c47b0 : decide ((ji45) < ((rd_L1 l0 a1_0).length : Int)) = true := decide_eq_true c47
                         clear c47
                         obtain rfl := Option.some.inj H
                         go_enter Try.func77, Try.ntmps77
                         go_wp2_with (first | ((with_reducible refine gate_dst (N := 3) rfl ?_); refine box_event ?hg (N := 3) ?hd (cs := #[.int .i64 a1_0, .int .i64 a1_1, .int .i64 a1_2]) (t := 73) ?hr ?_; (case hd => rfl); (case hg => rfl); (case hr => first | (go_simp; done) | (go_simp; rfl)); intro gb253 hg w48 hbox hb; have n0_ := Aside0.mk (below_step (by repeat (first | (with_reducible first | exact HB.out | apply below_alloc | apply pw_below_drewN | apply below_drew1) | exact HB.out)) hb); have n1_ := Aside0.mk (hbox); have n2_ := Aside0.mk ((by rw [hg]; exact (below_size (by repeat (first | (with_reducible first | exact HB.out | apply below_alloc | apply pw_below_drewN | apply below_drew1) | exact HB.out))) : w.heap.size ≤ gb253)); have n3_ := Aside0.mk ((by rw [hg]; exact (below_size (by repeat (first | (with_reducible first | exact HB.out | apply below_alloc | apply pw_below_drewN | apply below_drew1) | exact HB.out))) : w.heap.size ≤ gb253)); clear HB; have HB := n0_; have BK253 := n1_; have GW253 := n2_; have GE253 := n3_; clear n0_ n1_ n2_ n3_; clear hb hbox hg; have hcz49_0 : w48.cell? ⟨gb253, 0, none⟩ = some (.int .i64 a1_0) := (blk_cell BK253.out 0).trans rfl; have hcz49_1 : w48.cell? ⟨gb253, 1, none⟩ = some (.int .i64 a1_1) := (blk_cell BK253.out 1).trans rfl; have hcz49_2 : w48.cell? ⟨gb253, 2, none⟩ = some (.int .i64 a1_2) := (blk_cell BK253.out 2).trans rfl; have hfz49_0 := blk_frozen BK253.out 0; have hfz49_1 := blk_frozen BK253.out 1; have hfz49_2 := blk_frozen BK253.out 2; have p270 : 0 ≤ (a1_0 : Int) := of_decide_eq_true (by first | (with_reducible assumption) | assumption); have q270 : a1_0 < (l0.length : Int) := of_decide_eq_true (by first | (with_reducible assumption) | assumption); obtain ⟨ad270, A270_0, c270_0, e270, hx270_0, hl270_0, hi270_0⟩ := at_L1 HR0.out a1_0 p270 q270; cases e270; replace hx270_0 := (HB.out.cell (World.block_lt_of_cell? w _ hx270_0)).trans hx270_0; have HR270_0 := Aside0.mk hi270_0; have HC270_0 := Aside0.mk hl270_0; clear hi270_0 hl270_0; replace p270 := eq_true p270; replace q270 := eq_true q270; have p271 : 0 ≤ (a1_1 : Int) := of_decide_eq_true (by first | (with_reducible assumption) | assumption); have q271 : a1_1 < ((rd_L1 l0 a1_0).length : Int) := of_decide_eq_true (by first | (with_reducible assumption) | assumption); obtain ⟨ad271, e271, hx271_0⟩ := Kd.at_int HR270_0.out a1_1 p271 q271; cases e271; replace hx271_0 := (HB.out.cell (World.block_lt_of_cell? w _ hx271_0)).trans hx271_0; replace p271 := eq_true p271; replace q271 := eq_true q271; have p272 : 0 ≤ ((ji40) : Int) := of_decide_eq_true (by first | (with_reducible assumption) | assumption); have q272 : (ji40) < (l0.length : Int) := of_decide_eq_true (by first | (with_reducible assumption) | assumption); obtain ⟨ad272, A272_0, c272_0, e272, hx272_0, hl272_0, hi272_0⟩ := at_L1 HR0.out (ji40) p272 q272; obtain rfl : ad270 = ad272 := (by injection e272); replace hx272_0 := (HB.out.cell (World.block_lt_of_cell? w _ hx272_0)).trans hx272_0; have HR272_0 := Aside0.mk hi272_0; have HC272_0 := Aside0.mk hl272_0; clear hi272_0 hl272_0; replace p272 := eq_true p272; replace q272 := eq_true q272; have p273 : 0 ≤ (a1_1 : Int) := of_decide_eq_true (by first | (with_reducible assumption) | assumption); have q273 : a1_1 < ((rd_L1 l0 (ji40)).length : Int) := of_decide_eq_true (by first | (with_reducible assumption) | assumption); obtain ⟨ad273, e273, hx273_0⟩ := Kd.at_int HR272_0.out a1_1 p273 q273; cases e273; replace hx273_0 := (HB.out.cell (World.block_lt_of_cell? w _ hx273_0)).trans hx273_0; replace p273 := eq_true p273; replace q273 := eq_true q273; have p274 : 0 ≤ (a1_0 : Int) := of_decide_eq_true (by first | (with_reducible assumption) | assumption); have q274 : a1_0 < (l0.length : Int) := of_decide_eq_true (by first | (with_reducible assumption) | assumption); obtain ⟨ad274, A274_0, c274_0, e274, hx274_0, hl274_0, hi274_0⟩ := at_L1 HR0.out a1_0 p274 q274; obtain rfl : ad270 = ad274 := (by injection e274); replace hx274_0 := (HB.out.cell (World.block_lt_of_cell? w _ hx274_0)).trans hx274_0; have HR274_0 := Aside0.mk hi274_0; have HC274_0 := Aside0.mk hl274_0; clear hi274_0 hl274_0; replace p274 := eq_true p274; replace q274 := eq_true q274; have ea_ := Option.some.inj (hx270_0.symm.trans hx274_0); injection ea_ with ea_ en_ ec_; subst ea_; subst ec_; clear en_; have p275 : 0 ≤ (a1_1 : Int) := of_decide_eq_true (by first | (with_reducible assumption) | assumption); have q275 : a1_1 < ((rd_L1 l0 a1_0).length : Int) := of_decide_eq_true (by first | (with_reducible assumption) | assumption); obtain ⟨ad275, e275, hx275_0⟩ := Kd.at_int HR274_0.out a1_1 p275 q275; cases e275; replace hx275_0 := (HB.out.cell (World.block_lt_of_cell? w _ hx275_0)).trans hx275_0; replace p275 := eq_true p275; replace q275 := eq_true q275; have p276 : 0 ≤ (a1_0 : Int) := of_decide_eq_true (by first | (with_reducible assumption) | assumption); have q276 : a1_0 < (l0.length : Int) := of_decide_eq_true (by first | (with_reducible assumption) | assumption); obtain ⟨ad276, A276_0, c276_0, e276, hx276_0, hl276_0, hi276_0⟩ := at_L1 HR0.out a1_0 p276 q276; obtain rfl : ad270 = ad276 := (by injection e276); replace hx276_0 := (HB.out.cell (World.block_lt_of_cell? w _ hx276_0)).trans hx276_0; have HR276_0 := Aside0.mk hi276_0; have HC276_0 := Aside0.mk hl276_0; clear hi276_0 hl276_0; replace p276 := eq_true p276; replace q276 := eq_true q276; have ea_ := Option.some.inj (hx270_0.symm.trans hx276_0); injection ea_ with ea_ en_ ec_; subst ea_; subst ec_; clear en_; have p277 : 0 ≤ ((ji45) : Int) := of_decide_eq_true (by first | (with_reducible assumption) | assumption); have q277 : (ji45) < ((rd_L1 l0 a1_0).length : Int) := of_decide_eq_true (by first | (with_reducible assumption) | assumption); obtain ⟨ad277, e277, hx277_0⟩ := Kd.at_int HR276_0.out (ji45) p277 q277; cases e277; replace hx277_0 := (HB.out.cell (World.block_lt_of_cell? w _ hx277_0)).trans hx277_0; replace p277 := eq_true p277; replace q277 := eq_true q277))
                         repeat (go_quiet (first | ((with_reducible refine gate_dst (N := 3) rfl ?_); refine box_event ?hg (N := 3) ?hd (cs := #[.int .i64 a1_0, .int .i64 a1_1, .int .i64 a1_2]) (t := 73) ?hr ?_; (case hd => rfl); (case hg => rfl); (case hr => first | (go_simp; done) | (go_simp; rfl)); intro gb253 hg w48 hbox hb; have n0_ := Aside0.mk (below_step (by repeat (first | (with_reducible first | exact HB.out | apply below_alloc | apply pw_below_drewN | apply below_drew1) | exact HB.out)) hb); have n1_ := Aside0.mk (hbox); have n2_ := Aside0.mk ((by rw [hg]; exact (below_size (by repeat (first | (with_reducible first | exact HB.out | apply below_alloc | apply pw_below_drewN | apply below_drew1) | exact HB.out))) : w.heap.size ≤ gb253)); have n3_ := Aside0.mk ((by rw [hg]; exact (below_size (by repeat (first | (with_reducible first | exact HB.out | apply below_alloc | apply pw_below_drewN | apply below_drew1) | exact HB.out))) : w.heap.size ≤ gb253)); clear HB; have HB := n0_; have BK253 := n1_; have GW253 := n2_; have GE253 := n3_; clear n0_ n1_ n2_ n3_; clear hb hbox hg; have hcz49_0 : w48.cell? ⟨gb253, 0, none⟩ = some (.int .i64 a1_0) := (blk_cell BK253.out 0).trans rfl; have hcz49_1 : w48.cell? ⟨gb253, 1, none⟩ = some (.int .i64 a1_1) := (blk_cell BK253.out 1).trans rfl; have hcz49_2 : w48.cell? ⟨gb253, 2, none⟩ = some (.int .i64 a1_2) := (blk_cell BK253.out 2).trans rfl; have hfz49_0 := blk_frozen BK253.out 0; have hfz49_1 := blk_frozen BK253.out 1; have hfz49_2 := blk_frozen BK253.out 2; have p270 : 0 ≤ (a1_0 : Int) := of_decide_eq_true (by first | (with_reducible assumption) | assumption); have q270 : a1_0 < (l0.length : Int) := of_decide_eq_true (by first | (with_reducible assumption) | assumption); obtain ⟨ad270, A270_0, c270_0, e270, hx270_0, hl270_0, hi270_0⟩ := at_L1 HR0.out a1_0 p270 q270; cases e270; replace hx270_0 := (HB.out.cell (World.block_lt_of_cell? w _ hx270_0)).trans hx270_0; have HR270_0 := Aside0.mk hi270_0; have HC270_0 := Aside0.mk hl270_0; clear hi270_0 hl270_0; replace p270 := eq_true p270; replace q270 := eq_true q270; have p271 : 0 ≤ (a1_1 : Int) := of_decide_eq_true (by first | (with_reducible assumption) | assumption); have q271 : a1_1 < ((rd_L1 l0 a1_0).length : Int) := of_decide_eq_true (by first | (with_reducible assumption) | assumption); obtain ⟨ad271, e271, hx271_0⟩ := Kd.at_int HR270_0.out a1_1 p271 q271; cases e271; replace hx271_0 := (HB.out.cell (World.block_lt_of_cell? w _ hx271_0)).trans hx271_0; replace p271 := eq_true p271; replace q271 := eq_true q271; have p272 : 0 ≤ ((ji40) : Int) := of_decide_eq_true (by first | (with_reducible assumption) | assumption); have q272 : (ji40) < (l0.length : Int) := of_decide_eq_true (by first | (with_reducible assumption) | assumption); obtain ⟨ad272, A272_0, c272_0, e272, hx272_0, hl272_0, hi272_0⟩ := at_L1 HR0.out (ji40) p272 q272; obtain rfl : ad270 = ad272 := (by injection e272); replace hx272_0 := (HB.out.cell (World.block_lt_of_cell? w _ hx272_0)).trans hx272_0; have HR272_0 := Aside0.mk hi272_0; have HC272_0 := Aside0.mk hl272_0; clear hi272_0 hl272_0; replace p272 := eq_true p272; replace q272 := eq_true q272; have p273 : 0 ≤ (a1_1 : Int) := of_decide_eq_true (by first | (with_reducible assumption) | assumption); have q273 : a1_1 < ((rd_L1 l0 (ji40)).length : Int) := of_decide_eq_true (by first | (with_reducible assumption) | assumption); obtain ⟨ad273, e273, hx273_0⟩ := Kd.at_int HR272_0.out a1_1 p273 q273; cases e273; replace hx273_0 := (HB.out.cell (World.block_lt_of_cell? w _ hx273_0)).trans hx273_0; replace p273 := eq_true p273; replace q273 := eq_true q273; have p274 : 0 ≤ (a1_0 : Int) := of_decide_eq_true (by first | (with_reducible assumption) | assumption); have q274 : a1_0 < (l0.length : Int) := of_decide_eq_true (by first | (with_reducible assumption) | assumption); obtain ⟨ad274, A274_0, c274_0, e274, hx274_0, hl274_0, hi274_0⟩ := at_L1 HR0.out a1_0 p274 q274; obtain rfl : ad270 = ad274 := (by injection e274); replace hx274_0 := (HB.out.cell (World.block_lt_of_cell? w _ hx274_0)).trans hx274_0; have HR274_0 := Aside0.mk hi274_0; have HC274_0 := Aside0.mk hl274_0; clear hi274_0 hl274_0; replace p274 := eq_true p274; replace q274 := eq_true q274; have ea_ := Option.some.inj (hx270_0.symm.trans hx274_0); injection ea_ with ea_ en_ ec_; subst ea_; subst ec_; clear en_; have p275 : 0 ≤ (a1_1 : Int) := of_decide_eq_true (by first | (with_reducible assumption) | assumption); have q275 : a1_1 < ((rd_L1 l0 a1_0).length : Int) := of_decide_eq_true (by first | (with_reducible assumption) | assumption); obtain ⟨ad275, e275, hx275_0⟩ := Kd.at_int HR274_0.out a1_1 p275 q275; cases e275; replace hx275_0 := (HB.out.cell (World.block_lt_of_cell? w _ hx275_0)).trans hx275_0; replace p275 := eq_true p275; replace q275 := eq_true q275; have p276 : 0 ≤ (a1_0 : Int) := of_decide_eq_true (by first | (with_reducible assumption) | assumption); have q276 : a1_0 < (l0.length : Int) := of_decide_eq_true (by first | (with_reducible assumption) | assumption); obtain ⟨ad276, A276_0, c276_0, e276, hx276_0, hl276_0, hi276_0⟩ := at_L1 HR0.out a1_0 p276 q276; obtain rfl : ad270 = ad276 := (by injection e276); replace hx276_0 := (HB.out.cell (World.block_lt_of_cell? w _ hx276_0)).trans hx276_0; have HR276_0 := Aside0.mk hi276_0; have HC276_0 := Aside0.mk hl276_0; clear hi276_0 hl276_0; replace p276 := eq_true p276; replace q276 := eq_true q276; have ea_ := Option.some.inj (hx270_0.symm.trans hx276_0); injection ea_ with ea_ en_ ec_; subst ea_; subst ec_; clear en_; have p277 : 0 ≤ ((ji45) : Int) := of_decide_eq_true (by first | (with_reducible assumption) | assumption); have q277 : (ji45) < ((rd_L1 l0 a1_0).length : Int) := of_decide_eq_true (by first | (with_reducible assumption) | assumption); obtain ⟨ad277, e277, hx277_0⟩ := Kd.at_int HR276_0.out (ji45) p277 q277; cases e277; replace hx277_0 := (HB.out.cell (World.block_lt_of_cell? w _ hx277_0)).trans hx277_0; replace p277 := eq_true p277; replace q277 := eq_true q277)); try go_wp2_with (first | ((with_reducible refine gate_dst (N := 3) rfl ?_); refine box_event ?hg (N := 3) ?hd (cs := #[.int .i64 a1_0, .int .i64 a1_1, .int .i64 a1_2]) (t := 73) ?hr ?_; (case hd => rfl); (case hg => rfl); (case hr => first | (go_simp; done) | (go_simp; rfl)); intro gb253 hg w48 hbox hb; have n0_ := Aside0.mk (below_step (by repeat (first | (with_reducible first | exact HB.out | apply below_alloc | apply pw_below_drewN | apply below_drew1) | exact HB.out)) hb); have n1_ := Aside0.mk (hbox); have n2_ := Aside0.mk ((by rw [hg]; exact (below_size (by repeat (first | (with_reducible first | exact HB.out | apply below_alloc | apply pw_below_drewN | apply below_drew1) | exact HB.out))) : w.heap.size ≤ gb253)); have n3_ := Aside0.mk ((by rw [hg]; exact (below_size (by repeat (first | (with_reducible first | exact HB.out | apply below_alloc | apply pw_below_drewN | apply below_drew1) | exact HB.out))) : w.heap.size ≤ gb253)); clear HB; have HB := n0_; have BK253 := n1_; have GW253 := n2_; have GE253 := n3_; clear n0_ n1_ n2_ n3_; clear hb hbox hg; have hcz49_0 : w48.cell? ⟨gb253, 0, none⟩ = some (.int .i64 a1_0) := (blk_cell BK253.out 0).trans rfl; have hcz49_1 : w48.cell? ⟨gb253, 1, none⟩ = some (.int .i64 a1_1) := (blk_cell BK253.out 1).trans rfl; have hcz49_2 : w48.cell? ⟨gb253, 2, none⟩ = some (.int .i64 a1_2) := (blk_cell BK253.out 2).trans rfl; have hfz49_0 := blk_frozen BK253.out 0; have hfz49_1 := blk_frozen BK253.out 1; have hfz49_2 := blk_frozen BK253.out 2; have p270 : 0 ≤ (a1_0 : Int) := of_decide_eq_true (by first | (with_reducible assumption) | assumption); have q270 : a1_0 < (l0.length : Int) := of_decide_eq_true (by first | (with_reducible assumption) | assumption); obtain ⟨ad270, A270_0, c270_0, e270, hx270_0, hl270_0, hi270_0⟩ := at_L1 HR0.out a1_0 p270 q270; cases e270; replace hx270_0 := (HB.out.cell (World.block_lt_of_cell? w _ hx270_0)).trans hx270_0; have HR270_0 := Aside0.mk hi270_0; have HC270_0 := Aside0.mk hl270_0; clear hi270_0 hl270_0; replace p270 := eq_true p270; replace q270 := eq_true q270; have p271 : 0 ≤ (a1_1 : Int) := of_decide_eq_true (by first | (with_reducible assumption) | assumption); have q271 : a1_1 < ((rd_L1 l0 a1_0).length : Int) := of_decide_eq_true (by first | (with_reducible assumption) | assumption); obtain ⟨ad271, e271, hx271_0⟩ := Kd.at_int HR270_0.out a1_1 p271 q271; cases e271; replace hx271_0 := (HB.out.cell (World.block_lt_of_cell? w _ hx271_0)).trans hx271_0; replace p271 := eq_true p271; replace q271 := eq_true q271; have p272 : 0 ≤ ((ji40) : Int) := of_decide_eq_true (by first | (with_reducible assumption) | assumption); have q272 : (ji40) < (l0.length : Int) := of_decide_eq_true (by first | (with_reducible assumption) | assumption); obtain ⟨ad272, A272_0, c272_0, e272, hx272_0, hl272_0, hi272_0⟩ := at_L1 HR0.out (ji40) p272 q272; obtain rfl : ad270 = ad272 := (by injection e272); replace hx272_0 := (HB.out.cell (World.block_lt_of_cell? w _ hx272_0)).trans hx272_0; have HR272_0 := Aside0.mk hi272_0; have HC272_0 := Aside0.mk hl272_0; clear hi272_0 hl272_0; replace p272 := eq_true p272; replace q272 := eq_true q272; have p273 : 0 ≤ (a1_1 : Int) := of_decide_eq_true (by first | (with_reducible assumption) | assumption); have q273 : a1_1 < ((rd_L1 l0 (ji40)).length : Int) := of_decide_eq_true (by first | (with_reducible assumption) | assumption); obtain ⟨ad273, e273, hx273_0⟩ := Kd.at_int HR272_0.out a1_1 p273 q273; cases e273; replace hx273_0 := (HB.out.cell (World.block_lt_of_cell? w _ hx273_0)).trans hx273_0; replace p273 := eq_true p273; replace q273 := eq_true q273; have p274 : 0 ≤ (a1_0 : Int) := of_decide_eq_true (by first | (with_reducible assumption) | assumption); have q274 : a1_0 < (l0.length : Int) := of_decide_eq_true (by first | (with_reducible assumption) | assumption); obtain ⟨ad274, A274_0, c274_0, e274, hx274_0, hl274_0, hi274_0⟩ := at_L1 HR0.out a1_0 p274 q274; obtain rfl : ad270 = ad274 := (by injection e274); replace hx274_0 := (HB.out.cell (World.block_lt_of_cell? w _ hx274_0)).trans hx274_0; have HR274_0 := Aside0.mk hi274_0; have HC274_0 := Aside0.mk hl274_0; clear hi274_0 hl274_0; replace p274 := eq_true p274; replace q274 := eq_true q274; have ea_ := Option.some.inj (hx270_0.symm.trans hx274_0); injection ea_ with ea_ en_ ec_; subst ea_; subst ec_; clear en_; have p275 : 0 ≤ (a1_1 : Int) := of_decide_eq_true (by first | (with_reducible assumption) | assumption); have q275 : a1_1 < ((rd_L1 l0 a1_0).length : Int) := of_decide_eq_true (by first | (with_reducible assumption) | assumption); obtain ⟨ad275, e275, hx275_0⟩ := Kd.at_int HR274_0.out a1_1 p275 q275; cases e275; replace hx275_0 := (HB.out.cell (World.block_lt_of_cell? w _ hx275_0)).trans hx275_0; replace p275 := eq_true p275; replace q275 := eq_true q275; have p276 : 0 ≤ (a1_0 : Int) := of_decide_eq_true (by first | (with_reducible assumption) | assumption); have q276 : a1_0 < (l0.length : Int) := of_decide_eq_true (by first | (with_reducible assumption) | assumption); obtain ⟨ad276, A276_0, c276_0, e276, hx276_0, hl276_0, hi276_0⟩ := at_L1 HR0.out a1_0 p276 q276; obtain rfl : ad270 = ad276 := (by injection e276); replace hx276_0 := (HB.out.cell (World.block_lt_of_cell? w _ hx276_0)).trans hx276_0; have HR276_0 := Aside0.mk hi276_0; have HC276_0 := Aside0.mk hl276_0; clear hi276_0 hl276_0; replace p276 := eq_true p276; replace q276 := eq_true q276; have ea_ := Option.some.inj (hx270_0.symm.trans hx276_0); injection ea_ with ea_ en_ ec_; subst ea_; subst ec_; clear en_; have p277 : 0 ≤ ((ji45) : Int) := of_decide_eq_true (by first | (with_reducible assumption) | assumption); have q277 : (ji45) < ((rd_L1 l0 a1_0).length : Int) := of_decide_eq_true (by first | (with_reducible assumption) | assumption); obtain ⟨ad277, e277, hx277_0⟩ := Kd.at_int HR276_0.out (ji45) p277 q277; cases e277; replace hx277_0 := (HB.out.cell (World.block_lt_of_cell? w _ hx277_0)).trans hx277_0; replace p277 := eq_true p277; replace q277 := eq_true q277)))
                         go_ret
                         exact ⟨by first | rfl | (simp [errW_none, errW_some] <;> rfl) | (simp only [← hji40, ← hji45]; first | rfl | (simp [errW_none, errW_some] <;> rfl)) | (simp [*, errW_none, errW_some] <;> rfl), by repeat (first | (with_reducible first | exact HB.out | apply below_alloc | apply pw_below_drewN | apply below_drew1 | refine below_set ?_ GE253.out) | exact HB.out)⟩
                       · rw [if_neg c47] at H
                         exact absurd H (by simp)
                     · rw [if_neg c46] at H
                       exact absurd H (by simp)
                   · rw [if_neg c44] at H
                     have c44b0 : (a1_2 == 2) = false := beq_eq_false_iff_ne.mpr c44
                     have c44b1 : (a1_2 != 2) = true := bne_iff_ne.mpr c44
                     obtain rfl := Option.some.inj H
                     go_enter Try.func77, Try.ntmps77
                     go_wp2_with (first | ((with_reducible refine gate_dst (N := 3) rfl ?_); refine box_event ?hg (N := 3) ?hd (cs := #[.int .i64 a1_0, .int .i64 a1_1, .int .i64 a1_2]) (t := 73) ?hr ?_; (case hd => rfl); (case hg => rfl); (case hr => first | (go_simp; done) | (go_simp; rfl)); intro gb253 hg w50 hbox hb; have n0_ := Aside0.mk (below_step (by repeat (first | (with_reducible first | exact HB.out | apply below_alloc | apply pw_below_drewN | apply below_drew1) | exact HB.out)) hb); have n1_ := Aside0.mk (hbox); have n2_ := Aside0.mk ((by rw [hg]; exact (below_size (by repeat (first | (with_reducible first | exact HB.out | apply below_alloc | apply pw_below_drewN | apply below_drew1) | exact HB.out))) : w.heap.size ≤ gb253)); have n3_ := Aside0.mk ((by rw [hg]; exact (below_size (by repeat (first | (with_reducible first | exact HB.out | apply below_alloc | apply pw_below_drewN | apply below_drew1) | exact HB.out))) : w.heap.size ≤ gb253)); clear HB; have HB := n0_; have BK253 := n1_; have GW253 := n2_; have GE253 := n3_; clear n0_ n1_ n2_ n3_; clear hb hbox hg; have hcz51_0 : w50.cell? ⟨gb253, 0, none⟩ = some (.int .i64 a1_0) := (blk_cell BK253.out 0).trans rfl; have hcz51_1 : w50.cell? ⟨gb253, 1, none⟩ = some (.int .i64 a1_1) := (blk_cell BK253.out 1).trans rfl; have hcz51_2 : w50.cell? ⟨gb253, 2, none⟩ = some (.int .i64 a1_2) := (blk_cell BK253.out 2).trans rfl; have hfz51_0 := blk_frozen BK253.out 0; have hfz51_1 := blk_frozen BK253.out 1; have hfz51_2 := blk_frozen BK253.out 2; have p270 : 0 ≤ (a1_0 : Int) := of_decide_eq_true (by first | (with_reducible assumption) | assumption); have q270 : a1_0 < (l0.length : Int) := of_decide_eq_true (by first | (with_reducible assumption) | assumption); obtain ⟨ad270, A270_0, c270_0, e270, hx270_0, hl270_0, hi270_0⟩ := at_L1 HR0.out a1_0 p270 q270; cases e270; replace hx270_0 := (HB.out.cell (World.block_lt_of_cell? w _ hx270_0)).trans hx270_0; have HR270_0 := Aside0.mk hi270_0; have HC270_0 := Aside0.mk hl270_0; clear hi270_0 hl270_0; replace p270 := eq_true p270; replace q270 := eq_true q270; have p271 : 0 ≤ (a1_1 : Int) := of_decide_eq_true (by first | (with_reducible assumption) | assumption); have q271 : a1_1 < ((rd_L1 l0 a1_0).length : Int) := of_decide_eq_true (by first | (with_reducible assumption) | assumption); obtain ⟨ad271, e271, hx271_0⟩ := Kd.at_int HR270_0.out a1_1 p271 q271; cases e271; replace hx271_0 := (HB.out.cell (World.block_lt_of_cell? w _ hx271_0)).trans hx271_0; replace p271 := eq_true p271; replace q271 := eq_true q271; have p272 : 0 ≤ ((ji40) : Int) := of_decide_eq_true (by first | (with_reducible assumption) | assumption); have q272 : (ji40) < (l0.length : Int) := of_decide_eq_true (by first | (with_reducible assumption) | assumption); obtain ⟨ad272, A272_0, c272_0, e272, hx272_0, hl272_0, hi272_0⟩ := at_L1 HR0.out (ji40) p272 q272; obtain rfl : ad270 = ad272 := (by injection e272); replace hx272_0 := (HB.out.cell (World.block_lt_of_cell? w _ hx272_0)).trans hx272_0; have HR272_0 := Aside0.mk hi272_0; have HC272_0 := Aside0.mk hl272_0; clear hi272_0 hl272_0; replace p272 := eq_true p272; replace q272 := eq_true q272; have p273 : 0 ≤ (a1_1 : Int) := of_decide_eq_true (by first | (with_reducible assumption) | assumption); have q273 : a1_1 < ((rd_L1 l0 (ji40)).length : Int) := of_decide_eq_true (by first | (with_reducible assumption) | assumption); obtain ⟨ad273, e273, hx273_0⟩ := Kd.at_int HR272_0.out a1_1 p273 q273; cases e273; replace hx273_0 := (HB.out.cell (World.block_lt_of_cell? w _ hx273_0)).trans hx273_0; replace p273 := eq_true p273; replace q273 := eq_true q273))
                     repeat (go_quiet (first | ((with_reducible refine gate_dst (N := 3) rfl ?_); refine box_event ?hg (N := 3) ?hd (cs := #[.int .i64 a1_0, .int .i64 a1_1, .int .i64 a1_2]) (t := 73) ?hr ?_; (case hd => rfl); (case hg => rfl); (case hr => first | (go_simp; done) | (go_simp; rfl)); intro gb253 hg w50 hbox hb; have n0_ := Aside0.mk (below_step (by repeat (first | (with_reducible first | exact HB.out | apply below_alloc | apply pw_below_drewN | apply below_drew1) | exact HB.out)) hb); have n1_ := Aside0.mk (hbox); have n2_ := Aside0.mk ((by rw [hg]; exact (below_size (by repeat (first | (with_reducible first | exact HB.out | apply below_alloc | apply pw_below_drewN | apply below_drew1) | exact HB.out))) : w.heap.size ≤ gb253)); have n3_ := Aside0.mk ((by rw [hg]; exact (below_size (by repeat (first | (with_reducible first | exact HB.out | apply below_alloc | apply pw_below_drewN | apply below_drew1) | exact HB.out))) : w.heap.size ≤ gb253)); clear HB; have HB := n0_; have BK253 := n1_; have GW253 := n2_; have GE253 := n3_; clear n0_ n1_ n2_ n3_; clear hb hbox hg; have hcz51_0 : w50.cell? ⟨gb253, 0, none⟩ = some (.int .i64 a1_0) := (blk_cell BK253.out 0).trans rfl; have hcz51_1 : w50.cell? ⟨gb253, 1, none⟩ = some (.int .i64 a1_1) := (blk_cell BK253.out 1).trans rfl; have hcz51_2 : w50.cell? ⟨gb253, 2, none⟩ = some (.int .i64 a1_2) := (blk_cell BK253.out 2).trans rfl; have hfz51_0 := blk_frozen BK253.out 0; have hfz51_1 := blk_frozen BK253.out 1; have hfz51_2 := blk_frozen BK253.out 2; have p270 : 0 ≤ (a1_0 : Int) := of_decide_eq_true (by first | (with_reducible assumption) | assumption); have q270 : a1_0 < (l0.length : Int) := of_decide_eq_true (by first | (with_reducible assumption) | assumption); obtain ⟨ad270, A270_0, c270_0, e270, hx270_0, hl270_0, hi270_0⟩ := at_L1 HR0.out a1_0 p270 q270; cases e270; replace hx270_0 := (HB.out.cell (World.block_lt_of_cell? w _ hx270_0)).trans hx270_0; have HR270_0 := Aside0.mk hi270_0; have HC270_0 := Aside0.mk hl270_0; clear hi270_0 hl270_0; replace p270 := eq_true p270; replace q270 := eq_true q270; have p271 : 0 ≤ (a1_1 : Int) := of_decide_eq_true (by first | (with_reducible assumption) | assumption); have q271 : a1_1 < ((rd_L1 l0 a1_0).length : Int) := of_decide_eq_true (by first | (with_reducible assumption) | assumption); obtain ⟨ad271, e271, hx271_0⟩ := Kd.at_int HR270_0.out a1_1 p271 q271; cases e271; replace hx271_0 := (HB.out.cell (World.block_lt_of_cell? w _ hx271_0)).trans hx271_0; replace p271 := eq_true p271; replace q271 := eq_true q271; have p272 : 0 ≤ ((ji40) : Int) := of_decide_eq_true (by first | (with_reducible assumption) | assumption); have q272 : (ji40) < (l0.length : Int) := of_decide_eq_true (by first | (with_reducible assumption) | assumption); obtain ⟨ad272, A272_0, c272_0, e272, hx272_0, hl272_0, hi272_0⟩ := at_L1 HR0.out (ji40) p272 q272; obtain rfl : ad270 = ad272 := (by injection e272); replace hx272_0 := (HB.out.cell (World.block_lt_of_cell? w _ hx272_0)).trans hx272_0; have HR272_0 := Aside0.mk hi272_0; have HC272_0 := Aside0.mk hl272_0; clear hi272_0 hl272_0; replace p272 := eq_true p272; replace q272 := eq_true q272; have p273 : 0 ≤ (a1_1 : Int) := of_decide_eq_true (by first | (with_reducible assumption) | assumption); have q273 : a1_1 < ((rd_L1 l0 (ji40)).length : Int) := of_decide_eq_true (by first | (with_reducible assumption) | assumption); obtain ⟨ad273, e273, hx273_0⟩ := Kd.at_int HR272_0.out a1_1 p273 q273; cases e273; replace hx273_0 := (HB.out.cell (World.block_lt_of_cell? w _ hx273_0)).trans hx273_0; replace p273 := eq_true p273; replace q273 := eq_true q273)); try go_wp2_with (first | ((with_reducible refine gate_dst (N := 3) rfl ?_); refine box_event ?hg (N := 3) ?hd (cs := #[.int .i64 a1_0, .int .i64 a1_1, .int .i64 a1_2]) (t := 73) ?hr ?_; (case hd => rfl); (case hg => rfl); (case hr => first | (go_simp; done) | (go_simp; rfl)); intro gb253 hg w50 hbox hb; have n0_ := Aside0.mk (below_step (by repeat (first | (with_reducible first | exact HB.out | apply below_alloc | apply pw_below_drewN | apply below_drew1) | exact HB.out)) hb); have n1_ := Aside0.mk (hbox); have n2_ := Aside0.mk ((by rw [hg]; exact (below_size (by repeat (first | (with_reducible first | exact HB.out | apply below_alloc | apply pw_below_drewN | apply below_drew1) | exact HB.out))) : w.heap.size ≤ gb253)); have n3_ := Aside0.mk ((by rw [hg]; exact (below_size (by repeat (first | (with_reducible first | exact HB.out | apply below_alloc | apply pw_below_drewN | apply below_drew1) | exact HB.out))) : w.heap.size ≤ gb253)); clear HB; have HB := n0_; have BK253 := n1_; have GW253 := n2_; have GE253 := n3_; clear n0_ n1_ n2_ n3_; clear hb hbox hg; have hcz51_0 : w50.cell? ⟨gb253, 0, none⟩ = some (.int .i64 a1_0) := (blk_cell BK253.out 0).trans rfl; have hcz51_1 : w50.cell? ⟨gb253, 1, none⟩ = some (.int .i64 a1_1) := (blk_cell BK253.out 1).trans rfl; have hcz51_2 : w50.cell? ⟨gb253, 2, none⟩ = some (.int .i64 a1_2) := (blk_cell BK253.out 2).trans rfl; have hfz51_0 := blk_frozen BK253.out 0; have hfz51_1 := blk_frozen BK253.out 1; have hfz51_2 := blk_frozen BK253.out 2; have p270 : 0 ≤ (a1_0 : Int) := of_decide_eq_true (by first | (with_reducible assumption) | assumption); have q270 : a1_0 < (l0.length : Int) := of_decide_eq_true (by first | (with_reducible assumption) | assumption); obtain ⟨ad270, A270_0, c270_0, e270, hx270_0, hl270_0, hi270_0⟩ := at_L1 HR0.out a1_0 p270 q270; cases e270; replace hx270_0 := (HB.out.cell (World.block_lt_of_cell? w _ hx270_0)).trans hx270_0; have HR270_0 := Aside0.mk hi270_0; have HC270_0 := Aside0.mk hl270_0; clear hi270_0 hl270_0; replace p270 := eq_true p270; replace q270 := eq_true q270; have p271 : 0 ≤ (a1_1 : Int) := of_decide_eq_true (by first | (with_reducible assumption) | assumption); have q271 : a1_1 < ((rd_L1 l0 a1_0).length : Int) := of_decide_eq_true (by first | (with_reducible assumption) | assumption); obtain ⟨ad271, e271, hx271_0⟩ := Kd.at_int HR270_0.out a1_1 p271 q271; cases e271; replace hx271_0 := (HB.out.cell (World.block_lt_of_cell? w _ hx271_0)).trans hx271_0; replace p271 := eq_true p271; replace q271 := eq_true q271; have p272 : 0 ≤ ((ji40) : Int) := of_decide_eq_true (by first | (with_reducible assumption) | assumption); have q272 : (ji40) < (l0.length : Int) := of_decide_eq_true (by first | (with_reducible assumption) | assumption); obtain ⟨ad272, A272_0, c272_0, e272, hx272_0, hl272_0, hi272_0⟩ := at_L1 HR0.out (ji40) p272 q272; obtain rfl : ad270 = ad272 := (by injection e272); replace hx272_0 := (HB.out.cell (World.block_lt_of_cell? w _ hx272_0)).trans hx272_0; have HR272_0 := Aside0.mk hi272_0; have HC272_0 := Aside0.mk hl272_0; clear hi272_0 hl272_0; replace p272 := eq_true p272; replace q272 := eq_true q272; have p273 : 0 ≤ (a1_1 : Int) := of_decide_eq_true (by first | (with_reducible assumption) | assumption); have q273 : a1_1 < ((rd_L1 l0 (ji40)).length : Int) := of_decide_eq_true (by first | (with_reducible assumption) | assumption); obtain ⟨ad273, e273, hx273_0⟩ := Kd.at_int HR272_0.out a1_1 p273 q273; cases e273; replace hx273_0 := (HB.out.cell (World.block_lt_of_cell? w _ hx273_0)).trans hx273_0; replace p273 := eq_true p273; replace q273 := eq_true q273)))
                     go_ret
                     exact ⟨by first | rfl | (simp [errW_none, errW_some] <;> rfl) | (simp only [← hji40]; first | rfl | (simp [errW_none, errW_some] <;> rfl)) | (simp [*, errW_none, errW_some] <;> rfl), by repeat (first | (with_reducible first | exact HB.out | apply below_alloc | apply pw_below_drewN | apply below_drew1 | refine below_set ?_ GE253.out) | exact HB.out)⟩
                 · rw [if_neg c43] at H
                   exact absurd H (by simp)
               · rw [if_neg c42] at H
                 exact absurd H (by simp)
             · rw [if_neg c41] at H
               exact absurd H (by simp)
           · rw [if_neg c39] at H
             exact absurd H (by simp)
         · rw [if_neg c38] at H
           exact absurd H (by simp)
       · rw [if_neg c37] at H
         exact absurd H (by simp)
     · rw [if_neg c36] at H
       exact absurd H (by simp)

end Go.Proofs.Ytdinepghommchaa.V

/- The walk of ends' closure: a knot from which a thread leads outwards is appended. -/
namespace Go.Proofs.Ytdinepghommchaa.V
open Go.RowKit Go.Proofs.YtdinepghommchaaW.PrintWords Go.Proofs.YtdinepghommchaaW.PrintLast Go.Proofs.YtdinepghommchaaW.PrintMore
set_option linter.unusedVariables false
set_option linter.unusedSimpArgs false

theorem info73b : (Try.prog.info? 73).map (fun i => (i.zero, i.size, i.bytes)) = some (some (.agg #[(.int .i64 0), (.int .i64 0), (.int .i64 0)]), 3, 24) := by kernel_rfl

def veils_ends1.f (l : List (List Int)) (i j way : Int) (out : List S73) : Option (List S73) :=
 (veils_heights_thread.f l i j way).bind fun b => if b = true then (if out.length < 5864062014805 then some (out ++ [⟨i, j, way⟩]) else none) else some out

structure AccEnds (A : Option Addr) (n c ph pe : Nat) (w W : World) (out : List S73) : Prop where
 bh : W.heap[ph]? = some (.cells #[.slice A n c] 54 (0, 0))
 be : ∃ v, W.heap[pe]? = some (.cells #[v] 70 (0, 0)) ∧ Kd.R k73 73 W w.heap.size (fun _ => True) v out
 bel : Below w.heap.size w W

set_option maxHeartbeats 4000000 in
set_option maxRecDepth 100000 in
theorem veils_ends1.calls (l : List (List Int)) (A : Option Addr) (c ph pe : Nat) (w W : World) (i j way : Int) (out out' : List S73) (hr : Aside0 (Kd.C (Kd.slice 3 (Kd.int .i64)) w A l.length l)) (hc : Aside0 (l.length ≤ c)) (hpe : w.heap.size ≤ pe)
 (ha : AccEnds A l.length c ph pe w W out) (h : veils_ends1.f l i j way out = some out') :
 Calls Try.prog 76 #[.int .i64 i, .int .i64 j, .int .i64 way, .pointer (some ⟨ph, 0, none⟩), .pointer (some ⟨pe, 0, none⟩)] W fun e W' => e = .returned (.tuple #[]) ∧ AccEnds A l.length c ph pe w W' out' := by
 obtain ⟨v, hbe, hR⟩ := ha.be
 obtain ⟨b, hb, h⟩ := Option.bind_eq_some_iff.mp h
 have hne : ph ≠ pe := fun e => by
  have h1 := ha.bh
  rw [e, hbe] at h1
  injection h1 with h1
  injection h1 with _ h2
  cases h2
 have HX := Aside0.mk ha.bh
 have HE := Aside0.mk hbe
 have HR := Aside0.mk hR
 have HB := Aside0.mk ha.bel
 have HT := Aside0.mk hb
 have HP := Aside0.mk hpe
 have HN := Aside0.mk hne
 have ch : W.cell? ⟨ph, 0, none⟩ = some (.slice A l.length c) := (blk_cell ha.bh 0).trans rfl
 have ce : W.cell? ⟨pe, 0, none⟩ = some v := (blk_cell hbe 0).trans rfl
 have hu73 := Try.underlying73
 have lp := blk_lt ha.bh
 have le := blk_lt hbe
 clear ha hbe hR hb hpe hne
 cases b with
 | false =>
  obtain rfl := Option.some.inj h
  clear h
  go_enter Try.func76, Try.ntmps76
  go_wp2_with (go_at_call 77; refine (veils_heights_thread.calls A c l i j way false _ ?s1 hc.out HT.out).mono ?_; (case s1 => exact Kd.C_alloc (Kd.C_below hr.out HB.out) _); rintro e w1 ⟨rfl, hb1⟩; have HB1 := Aside0.mk hb1; clear hb1)
  first | go_end0 | ((try simp only [Exit.inBlock, Exit.then]); refine bodyPost_ret (results_none rfl _ _ _) rfl ?_)
  exact ⟨rfl, blk_below (blk_alloc HX.out _) HB1.out, ⟨v, blk_below (blk_alloc HE.out _) HB1.out, Kd.R_below (Kd.R_alloc HR.out _) HB1.out⟩, below_step (below_alloc HB.out _) HB1.out⟩
 | true =>
  rw [if_pos rfl] at h
  by_cases hl : out.length < 5864062014805
  · rw [if_pos hl] at h
    obtain rfl := Option.some.inj h
    have HL := Aside0.mk hl
    clear h hl
    have bk : (W.alloc (.cells #[.int .i64 i, .int .i64 j, .int .i64 way] 73)).heap[W.heap.size]? = some (.cells #[.int .i64 i, .int .i64 j, .int .i64 way] 73 (0, 0)) := blk_new _ _
    have BK := Aside0.mk bk
    clear bk
    go_enter Try.func76, Try.ntmps76
    go_wp2_with (first | (go_at_call 77; refine (veils_heights_thread.calls A c l i j way true _ ?s1 hc.out HT.out).mono ?_; (case s1 => exact Kd.C_alloc (Kd.C_below hr.out HB.out) _); rintro e w1 ⟨rfl, hb1⟩; have HB1 := Aside0.mk hb1; have ce1 := (blk_cell (blk_below (blk_alloc HE.out _) hb1) 0).trans (rfl : _ = some v); have k0 := (blk_cell (blk_below BK.out hb1) 0).trans (rfl : _ = some (Value.int .i64 i)); have k1 := (blk_cell (blk_below BK.out hb1) 1).trans (rfl : _ = some (Value.int .i64 j)); have k2 := (blk_cell (blk_below BK.out hb1) 2).trans (rfl : _ = some (Value.int .i64 way)); clear hb1) | ((with_reducible refine gate_builtin (b := .append) (xs := #[.tmp 16, .tmp 18]) rfl ?_); at_builtin; refine Kd.R_append k73 (w0 := w) w.heap.size rfl (.tmp 16) (.tmp 18) 70 73 (.agg #[(.int .i64 0), (.int .i64 0), (.int .i64 0)]) 24 rfl Try.underlying70 info73b rfl (by decide) (by omega) v out (⟨i, j, way⟩ : S73) [.int .i64 i, .int .i64 j, .int .i64 way] (fun _ => True) (fun _ => False) rfl rfl ?aP (fun _ hk => hk.elim) ?aF ?aO ?aB ?aS ?aL ?_; (case aP => exact k73_mkM _ _ _ (⟨i, j, way⟩ : S73)); (case aB => exact below_step (below_alloc HB.out _) HB1.out); (case aF => exact (fun _ _ => trivial)); (case aO => exact Kd.R_below (Kd.R_alloc HR.out _) HB1.out); (case aS => exact below_size (below_step (below_alloc HB.out _) HB1.out)); (case aL => have := HL.out; omega); intro v2 w2 ho hb hg hat; have hne := Kd.R_ne (Kd.R_below (Kd.R_alloc HR.out _) HB1.out) (blk_below (blk_alloc HE.out _) HB1.out) (by decide); have hne2 := Kd.R_ne (Kd.R_below (Kd.R_alloc HR.out _) HB1.out) (blk_below (blk_alloc HX.out _) HB1.out) (by decide); have HE2 := Aside0.mk (blk_grown (blk_below (blk_alloc HE.out _) HB1.out) hg hne); have HX2 := Aside0.mk (blk_grown (blk_below (blk_alloc HX.out _) HB1.out) hg hne2); have HO2 := Aside0.mk ho; have HB2 := Aside0.mk hb; have ce2 := (blk_cell HE2.out 0).trans (rfl : _ = some v); have fe2 := blk_frozen HE2.out 0; clear ho hb hg hat hne hne2; obtain ⟨A2, c2, e2⟩ := Kd.R_slice HO2.out; subst e2))
    first | go_end0 | ((try simp only [Exit.inBlock, Exit.then]); refine bodyPost_ret (results_none rfl _ _ _) rfl ?_)
    refine ⟨rfl, blk_far HX2.out (fun e => HN.out e) _, ⟨_, by simpa using blk_set HE2.out 0 _, Kd.R_set HO2.out HE2.out (by decide) 0 _⟩, below_set HB2.out HP.out⟩
  · rw [if_neg hl] at h
    cases h
end Go.Proofs.Ytdinepghommchaa.V

-- Written by a program of this session over the kit's printer: wip/gp.py.
namespace Go.Proofs.Ytdinepghommchaa.V
open Go.RowKit Go.Proofs.YtdinepghommchaaW.PrintWords Go.Proofs.YtdinepghommchaaW.PrintLast Go.Proofs.YtdinepghommchaaW.PrintMore
attribute [local go_sem] max2_int min2_int max_two min_two max_three min_three max_four min_four   -- for this text's walks alone
set_option linter.unusedVariables false
set_option linter.unusedSimpArgs false

/-! ### veils_heights_size: function 74 -/
def veils_heights_size.f (l0 : List (List Int)) : Option (Int) := some (wrap64 ((l0.length : Int) - 1))
set_option maxHeartbeats 8000000 in
set_option maxRecDepth 100000 in
theorem veils_heights_size.calls (A0 : Option Addr) (c0 : Nat) (l0 : List (List Int)) (r : Int) (w : World) (hr0 : Kd.C (Kd.slice 3 (Kd.int .i64)) w A0 l0.length l0) (hc0 : l0.length ≤ c0) (h : veils_heights_size.f l0 = some r) :
 Calls Try.prog 74 #[.slice A0 l0.length c0] w fun e w' => e = .returned (.int .i64 r) ∧ Drawn0 w w' := by
 have HR0 := Aside0.mk hr0
 have HC0 := Aside0.mk hc0
 clear hr0 hc0
 have H : (some (wrap64 ((l0.length : Int) - 1))) = some r := h
 clear h
 obtain rfl := Option.some.inj H
 go_enter Try.func74, Try.ntmps74
 go_wp2
 go_ret
 exact ⟨by first | rfl | (simp; done) | (simp [*]; done), by repeat (first | exact Drawn0.refl _ | apply Drawn0.step)⟩

end Go.Proofs.Ytdinepghommchaa.V

/- The walk of ends: the four sides, one behind the other. -/
namespace Go.Proofs.Ytdinepghommchaa.V
open Go.RowKit Go.Proofs.YtdinepghommchaaW.PrintWords Go.Proofs.YtdinepghommchaaW.PrintLast Go.Proofs.YtdinepghommchaaW.PrintMore
set_option linter.unusedVariables false
set_option linter.unusedSimpArgs false

def upL (g : Int → List S73 → Option (List S73)) (n : Int) : Nat → Int → List S73 → Option (List S73)
 | 0, _, _ => none
 | k + 1, x, o => if x ≤ n then (g x o).bind fun o' => upL g n k (wrap64 (x + 1)) o' else some o
def downL (g : Int → List S73 → Option (List S73)) : Nat → Int → List S73 → Option (List S73)
 | 0, _, _ => none
 | k + 1, x, o => if 1 ≤ x then (g x o).bind fun o' => downL g k (wrap64 (x - 1)) o' else some o
def veils_heights_ends.f (l : List (List Int)) : Option (List S73) :=
 (upL (fun x => veils_ends1.f l 1 x 0) (wrap64 ((l.length : Int) - 1)) 100 1 []).bind fun o1 =>
 (upL (fun x => veils_ends1.f l x (wrap64 ((l.length : Int) - 1)) 1) (wrap64 ((l.length : Int) - 1)) 100 1 o1).bind fun o2 =>
 (downL (fun x => veils_ends1.f l (wrap64 ((l.length : Int) - 1)) x 2) 100 (wrap64 ((l.length : Int) - 1)) o2).bind fun o3 =>
 downL (fun x => veils_ends1.f l x 1 3) 100 (wrap64 ((l.length : Int) - 1)) o3

set_option maxHeartbeats 4000000 in
set_option maxRecDepth 100000 in
theorem veils_heights_ends.calls (A0 : Option Addr) (c0 : Nat) (l0 : List (List Int)) (r : List S73) (w : World) (hr0 : Kd.C (Kd.slice 3 (Kd.int .i64)) w A0 l0.length l0) (hc0 : l0.length ≤ c0) (h : veils_heights_ends.f l0 = some r) :
 Calls Try.prog 65 #[.slice A0 l0.length c0] w fun e w' => ∃ v0_ : Value, e = .returned (v0_) ∧ Kd.R k73 73 w' w.heap.size (fun _ => True) v0_ r ∧ Below w.heap.size w w' := by
 unfold veils_heights_ends.f at h
 obtain ⟨o1, h1, h⟩ := Option.bind_eq_some_iff.mp h
 obtain ⟨o2, h2, h⟩ := Option.bind_eq_some_iff.mp h
 obtain ⟨o3, h3, h4⟩ := Option.bind_eq_some_iff.mp h
 have hsz : veils_heights_size.f l0 = some (wrap64 ((l0.length : Int) - 1)) := rfl
 generalize wrap64 ((l0.length : Int) - 1) = n at h1 h2 h3 h4 hsz
 have H1 := Aside0.mk h1
 have H2 := Aside0.mk h2
 have H3 := Aside0.mk h3
 have H4 := Aside0.mk h4
 have HZ := Aside0.mk hsz
 have HR := Aside0.mk hr0
 have HC := Aside0.mk hc0
 clear h h1 h2 h3 h4 hsz hr0 hc0
 have hmf : ∀ (fn : Fn) (first cap : Array Value) (w : World), (Instr.makeFunc fn first cap).run Try.prog w = .ok (.func fn first cap) w := fun _ _ _ _ => rfl
 have B1 := Aside0.mk (blk_new w (.cells #[.slice A0 l0.length c0] 54))
 have hcell := (blk_cell B1.out 0).trans (rfl : _ = some (Value.slice A0 l0.length c0))
 go_enter Try.func65, Try.ntmps65
 go_wp2_with (go_at_call 74; refine (veils_heights_size.calls A0 c0 l0 n _ ?s1 HC.out HZ.out).mono ?_; (case s1 => exact Kd.C_below HR.out (below_alloc (Below.refl _ _) _)); rintro e w1 ⟨rfl, ⟨nd, rfl⟩⟩)
 go_loopg [6] 100 (fun kq vx w' => ∃ (x : Int) (o : List S73), vx = .int .i64 x ∧ Aside0 (upL (fun x => veils_ends1.f l0 1 x 0) n kq x o = some o1) ∧ Aside0 (AccEnds A0 l0.length c0 w.heap.size (w.heap.size + 1) w w' o))
 case atStart => exact ⟨1, [], rfl, H1, ⟨by simpa using ⟨blk_alloc B1.out _, ⟨_, (by simpa using blk_new ((w.alloc (.cells #[.slice A0 l0.length c0] 54)).drewN nd) (.cells #[.slice none 0 0] 70)), Kd.R_nil _ _ _ _ _⟩, below_alloc (pw_below_drewN (below_alloc (Below.refl _ _) _) nd) _⟩⟩⟩
 case round =>
  clear H1
  obtain ⟨x, o, rfl, HL, HA⟩ := hrel
  cases gk with
  | zero => exact absurd HL.out (by simp [upL])
  | succ k1 =>
   have H := HL.out
   clear HL
   simp only [upL] at H
   by_cases c1 : x ≤ n
   · rw [if_pos c1] at H
     have d1 : decide (x ≤ n) = true := decide_eq_true c1
     obtain ⟨o', ho, H⟩ := Option.bind_eq_some_iff.mp H
     have HO := Aside0.mk ho
     have HN := Aside0.mk H
     clear c1 ho H
     go_wp2_with (go_at_call 76; refine (veils_ends1.calls l0 A0 c0 w.heap.size (w.heap.size + 1) w _ _ _ _ o o' HR HC (by omega) HA.out HO.out).mono ?_; rintro e w2 ⟨rfl, ha2⟩; have HA2 := Aside0.mk ha2; clear ha2)
     go_roundg k1
     case measure => omega
     case rel => exact ⟨wrap64 (x + 1), o', rfl, HN, HA2⟩
   · rw [if_neg c1] at H
     have d1 : decide (x ≤ n) = false := decide_eq_false c1
     obtain rfl := Option.some.inj H
     clear c1 H
     go_wp2
     go_loopg [7] 100 (fun kq vx w' => ∃ (x : Int) (o : List S73), vx = .int .i64 x ∧ Aside0 (upL (fun x => veils_ends1.f l0 x n 1) n kq x o = some o2) ∧ Aside0 (AccEnds A0 l0.length c0 w.heap.size (w.heap.size + 1) w w' o))
     case atStart => exact ⟨1, _, rfl, H2, HA⟩
     case round =>
      clear H2
      obtain ⟨x, o, rfl, HL, HA⟩ := hrel
      cases gk with
      | zero => exact absurd HL.out (by simp [upL])
      | succ k1 =>
       have H := HL.out
       clear HL
       simp only [upL] at H
       by_cases c1 : x ≤ n
       · rw [if_pos c1] at H
         have d1 : decide (x ≤ n) = true := decide_eq_true c1
         obtain ⟨o', ho, H⟩ := Option.bind_eq_some_iff.mp H
         have HO := Aside0.mk ho
         have HN := Aside0.mk H
         clear c1 ho H
         go_wp2_with (go_at_call 76; refine (veils_ends1.calls l0 A0 c0 w.heap.size (w.heap.size + 1) w _ _ _ _ o o' HR HC (by omega) HA.out HO.out).mono ?_; rintro e w2 ⟨rfl, ha2⟩; have HA2 := Aside0.mk ha2; clear ha2)
         go_roundg k1
         case measure => omega
         case rel => exact ⟨wrap64 (x + 1), o', rfl, HN, HA2⟩
       · rw [if_neg c1] at H
         have d1 : decide (x ≤ n) = false := decide_eq_false c1
         obtain rfl := Option.some.inj H
         clear c1 H
         go_wp2
         go_loopg [8] 100 (fun kq vx w' => ∃ (x : Int) (o : List S73), vx = .int .i64 x ∧ Aside0 (downL (fun x => veils_ends1.f l0 n x 2) kq x o = some o3) ∧ Aside0 (AccEnds A0 l0.length c0 w.heap.size (w.heap.size + 1) w w' o))
         case atStart => exact ⟨n, _, rfl, H3, HA⟩
         case round =>
          clear H3
          obtain ⟨x, o, rfl, HL, HA⟩ := hrel
          cases gk with
          | zero => exact absurd HL.out (by simp [downL])
          | succ k1 =>
           have H := HL.out
           clear HL
           simp only [downL] at H
           by_cases c1 : 1 ≤ x
           · rw [if_pos c1] at H
             have d1 : decide (1 ≤ x) = true := decide_eq_true c1
             obtain ⟨o', ho, H⟩ := Option.bind_eq_some_iff.mp H
             have HO := Aside0.mk ho
             have HN := Aside0.mk H
             clear c1 ho H
             go_wp2_with (go_at_call 76; refine (veils_ends1.calls l0 A0 c0 w.heap.size (w.heap.size + 1) w _ _ _ _ o o' HR HC (by omega) HA.out HO.out).mono ?_; rintro e w2 ⟨rfl, ha2⟩; have HA2 := Aside0.mk ha2; clear ha2)
             go_roundg k1
             case measure => omega
             case rel => exact ⟨wrap64 (x - 1), o', rfl, HN, HA2⟩
           · rw [if_neg c1] at H
             have d1 : decide (1 ≤ x) = false := decide_eq_false c1
             obtain rfl := Option.some.inj H
             clear c1 H
             go_wp2
             go_loopg [9] 100 (fun kq vx w' => ∃ (x : Int) (o : List S73), vx = .int .i64 x ∧ Aside0 (downL (fun x => veils_ends1.f l0 x 1 3) kq x o = some r) ∧ Aside0 (AccEnds A0 l0.length c0 w.heap.size (w.heap.size + 1) w w' o))
             case atStart => exact ⟨n, _, rfl, H4, HA⟩
             case round =>
              clear H4
              obtain ⟨x, o, rfl, HL, HA⟩ := hrel
              cases gk with
              | zero => exact absurd HL.out (by simp [downL])
              | succ k1 =>
               have H := HL.out
               clear HL
               simp only [downL] at H
               by_cases c1 : 1 ≤ x
               · rw [if_pos c1] at H
                 have d1 : decide (1 ≤ x) = true := decide_eq_true c1
                 obtain ⟨o', ho, H⟩ := Option.bind_eq_some_iff.mp H
                 have HO := Aside0.mk ho
                 have HN := Aside0.mk H
                 clear c1 ho H
                 go_wp2_with (go_at_call 76; refine (veils_ends1.calls l0 A0 c0 w.heap.size (w.heap.size + 1) w _ _ _ _ o o' HR HC (by omega) HA.out HO.out).mono ?_; rintro e w2 ⟨rfl, ha2⟩; have HA2 := Aside0.mk ha2; clear ha2)
                 go_roundg k1
                 case measure => omega
                 case rel => exact ⟨wrap64 (x - 1), o', rfl, HN, HA2⟩
               · rw [if_neg c1] at H
                 have d1 : decide (1 ≤ x) = false := decide_eq_false c1
                 obtain rfl := Option.some.inj H
                 clear c1 H
                 obtain ⟨v, hv, hRv⟩ := HA.out.be
                 have cv := (blk_cell hv 0).trans (rfl : _ = some v)
                 have HV := Aside0.mk hRv
                 clear hv hRv
                 go_wp2
                 go_ret
                 exact ⟨v, rfl, HV.out, HA.out.bel⟩
end Go.Proofs.Ytdinepghommchaa.V

-- Written by a program of this session over the kit's printer: wip/gp.py.
namespace Go.Proofs.Ytdinepghommchaa.V
open Go.RowKit Go.Proofs.YtdinepghommchaaW.PrintWords Go.Proofs.YtdinepghommchaaW.PrintLast Go.Proofs.YtdinepghommchaaW.PrintMore
attribute [local go_sem] max2_int min2_int max_two min_two max_three min_three max_four min_four   -- for this text's walks alone
set_option linter.unusedVariables false
set_option linter.unusedSimpArgs false

theorem eqA73 (d : Nat) (w : World) (x0 y0 : Int) (x1 y1 : Int) (x2 y2 : Int) :
 (Op.equalIn (d + 2) 73 (.agg #[.int .i64 x0, .int .i64 x1, .int .i64 x2]) (.agg #[.int .i64 y0, .int .i64 y1, .int .i64 y2])).run Try.prog w = .ok (x0 == y0 && (x1 == y1 && (x2 == y2))) w := by
 refine eqA_of Try.underlying73 (by kernel_rfl) ?_
 refine eqf_cons (by rfl) (by go_simp; rfl) (by go_simp; rfl) (by go_simp) ?_
 refine eqf_cons (by rfl) (by go_simp; rfl) (by go_simp; rfl) (by go_simp) ?_
 exact eqf_last (by rfl) (by go_simp; rfl) (by go_simp; rfl) (by go_simp)
end Go.Proofs.Ytdinepghommchaa.V

-- Written by a program of this session over the kit's printer: wip/gp.py.
namespace Go.Proofs.Ytdinepghommchaa.V
open Go.RowKit Go.Proofs.YtdinepghommchaaW.PrintWords Go.Proofs.YtdinepghommchaaW.PrintLast Go.Proofs.YtdinepghommchaaW.PrintMore
attribute [local go_sem] max2_int min2_int max_two min_two max_three min_three max_four min_four   -- for this text's walks alone
set_option linter.unusedVariables false
set_option linter.unusedSimpArgs false

attribute [local go_sem high] eqA73
/-! ### veils_knot: function 66 -/
def veils_knot.l0 : Nat → List (S73) → Int → Int → Int → Int → Int → Option (Int)
 | 0, _, _, _, _, _, _ => none
 | k + 1, x0, x7, x8, x252000, x252001, x252002 => if x8 < x7 then (if 0 ≤ x8 then (if x8 < (x0.length : Int) then (if (x252000 == ((rd_T73 x0 x8).f0) && (x252001 == ((rd_T73 x0 x8).f1) && (x252002 == ((rd_T73 x0 x8).f2)))) = true then (some x8) else (veils_knot.l0 k x0 x7 (wrap64 (x8 + 1)) x252000 x252001 x252002)) else (none)) else (none)) else (some (-1))
def veils_knot.f (k : Nat) (l0 : List (S73)) (a1_0 : Int) (a1_1 : Int) (a1_2 : Int) : Option (Int) := veils_knot.l0 k l0 (l0.length : Int) 0 a1_0 a1_1 a1_2
theorem veils_knot.mono_l : ∀ k, (∀ y0 y1 y2 y3 y4 y5, LeO (veils_knot.l0 k y0 y1 y2 y3 y4 y5) (veils_knot.l0 (k + 1) y0 y1 y2 y3 y4 y5))
 | 0 => fun _ _ _ _ _ _ r h => by simp [veils_knot.l0] at h
 | k + 1 => by
  have ih0 := veils_knot.mono_l k
  · intro y0 y1 y2 y3 y4 y5
    unfold veils_knot.l0
    repeat' first
    | (with_reducible exact ih0 _ _ _ _ _ _)
    | (with_reducible exact LeO.refl _)
    | (with_reducible exact LeO.none _)
    | (with_reducible refine LeO.ite ?_ ?_)
    | (with_reducible refine LeO.bind ?_ (fun _ => ?_))
    | exact ih0 _ _ _ _ _ _
    | exact LeO.none _
    | refine LeO.ite ?_ ?_
    | refine LeO.bind ?_ (fun _ => ?_)
theorem veils_knot.mono : ∀ a0 a1 a2 a3 k, LeO (veils_knot.f k a0 a1 a2 a3) (veils_knot.f (k + 1) a0 a1 a2 a3) := by
 intro a0 a1 a2 a3 k
 have ih0 := veils_knot.mono_l k
 unfold veils_knot.f
 repeat' first
  | (with_reducible exact ih0 _ _ _ _ _ _)
  | (with_reducible exact LeO.refl _)
  | (with_reducible exact LeO.none _)
  | (with_reducible refine LeO.ite ?_ ?_)
  | (with_reducible refine LeO.bind ?_ (fun _ => ?_))
  | exact ih0 _ _ _ _ _ _
  | exact LeO.none _
  | refine LeO.ite ?_ ?_
  | refine LeO.bind ?_ (fun _ => ?_)
set_option maxHeartbeats 8000000 in
set_option maxRecDepth 100000 in
theorem veils_knot.calls (k : Nat) (A0 : Option Addr) (c0 : Nat) (l0 : List (S73)) (a1_0 : Int) (a1_1 : Int) (a1_2 : Int) (r : Int) (w : World) (hr0 : Kd.C k73 w A0 l0.length l0) (hc0 : l0.length ≤ c0) (h : veils_knot.f k l0 a1_0 a1_1 a1_2 = some r) :
 Calls Try.prog 66 #[.slice A0 l0.length c0, .agg #[.int .i64 a1_0, .int .i64 a1_1, .int .i64 a1_2]] w fun e w' => e = .returned (.int .i64 r) ∧ Below w.heap.size w w' := by
 have hu73 := Try.underlying73
 have HR0 := Aside0.mk hr0
 have HC0 := Aside0.mk hc0
 clear hr0 hc0
 have HB := Aside0.mk (Below.refl w.heap.size w)
 have H : (veils_knot.l0 k l0 (l0.length : Int) 0 a1_0 a1_1 a1_2) = some r := h
 clear h
 have H' := Aside0.mk H
 clear H
 go_enter Try.func66, Try.ntmps66
 go_wp2_with (first | ((with_reducible refine gate_dst (N := 3) rfl ?_); refine box_event ?hg (N := 3) ?hd (cs := #[.int .i64 a1_0, .int .i64 a1_1, .int .i64 a1_2]) (t := 73) ?hr ?_; (case hd => rfl); (case hg => rfl); (case hr => first | (go_simp; done) | (go_simp; rfl)); intro gb251 hg w3 hbox hb; have n0_ := Aside0.mk (below_step (by repeat (first | (with_reducible first | exact HB.out | apply below_alloc | apply pw_below_drewN | apply below_drew1) | exact HB.out)) hb); have n1_ := Aside0.mk (hbox); have n2_ := Aside0.mk ((by rw [hg]; exact (below_size (by repeat (first | (with_reducible first | exact HB.out | apply below_alloc | apply pw_below_drewN | apply below_drew1) | exact HB.out))) : w.heap.size ≤ gb251)); have n3_ := Aside0.mk ((by rw [hg]; exact (below_size (by repeat (first | (with_reducible first | exact HB.out | apply below_alloc | apply pw_below_drewN | apply below_drew1) | exact HB.out))) : w.heap.size ≤ gb251)); clear HB; have HB := n0_; have BK251 := n1_; have GW251 := n2_; have GE251 := n3_; clear n0_ n1_ n2_ n3_; clear hb hbox hg))
 repeat (go_quiet (first | ((with_reducible refine gate_dst (N := 3) rfl ?_); refine box_event ?hg (N := 3) ?hd (cs := #[.int .i64 a1_0, .int .i64 a1_1, .int .i64 a1_2]) (t := 73) ?hr ?_; (case hd => rfl); (case hg => rfl); (case hr => first | (go_simp; done) | (go_simp; rfl)); intro gb251 hg w3 hbox hb; have n0_ := Aside0.mk (below_step (by repeat (first | (with_reducible first | exact HB.out | apply below_alloc | apply pw_below_drewN | apply below_drew1) | exact HB.out)) hb); have n1_ := Aside0.mk (hbox); have n2_ := Aside0.mk ((by rw [hg]; exact (below_size (by repeat (first | (with_reducible first | exact HB.out | apply below_alloc | apply pw_below_drewN | apply below_drew1) | exact HB.out))) : w.heap.size ≤ gb251)); have n3_ := Aside0.mk ((by rw [hg]; exact (below_size (by repeat (first | (with_reducible first | exact HB.out | apply below_alloc | apply pw_below_drewN | apply below_drew1) | exact HB.out))) : w.heap.size ≤ gb251)); clear HB; have HB := n0_; have BK251 := n1_; have GW251 := n2_; have GE251 := n3_; clear n0_ n1_ n2_ n3_; clear hb hbox hg)); try go_wp2_with (first | ((with_reducible refine gate_dst (N := 3) rfl ?_); refine box_event ?hg (N := 3) ?hd (cs := #[.int .i64 a1_0, .int .i64 a1_1, .int .i64 a1_2]) (t := 73) ?hr ?_; (case hd => rfl); (case hg => rfl); (case hr => first | (go_simp; done) | (go_simp; rfl)); intro gb251 hg w3 hbox hb; have n0_ := Aside0.mk (below_step (by repeat (first | (with_reducible first | exact HB.out | apply below_alloc | apply pw_below_drewN | apply below_drew1) | exact HB.out)) hb); have n1_ := Aside0.mk (hbox); have n2_ := Aside0.mk ((by rw [hg]; exact (below_size (by repeat (first | (with_reducible first | exact HB.out | apply below_alloc | apply pw_below_drewN | apply below_drew1) | exact HB.out))) : w.heap.size ≤ gb251)); have n3_ := Aside0.mk ((by rw [hg]; exact (below_size (by repeat (first | (with_reducible first | exact HB.out | apply below_alloc | apply pw_below_drewN | apply below_drew1) | exact HB.out))) : w.heap.size ≤ gb251)); clear HB; have HB := n0_; have BK251 := n1_; have GW251 := n2_; have GE251 := n3_; clear n0_ n1_ n2_ n3_; clear hb hbox hg)))
 go_loopg [8] k (fun kq v8 w' => ∃ (x8_1 : Int), v8 = .int .i64 x8_1 ∧ Aside0 (veils_knot.l0 kq l0 (l0.length : Int) x8_1 a1_0 a1_1 a1_2 = some r) ∧ Aside0 (kq ≤ k) ∧ Aside0 (w'.heap[gb251]? = some (.cells #[.int .i64 a1_0, .int .i64 a1_1, .int .i64 a1_2] 73 (0, 0))) ∧ Aside0 (Below w.heap.size w w'))
 case atStart => exact ⟨(0), (by first | rfl | (simp; done) | (simp [*]; done)), H', ⟨Nat.le_refl _⟩, ⟨by (with_reducible repeat (first | refine blk_drewN ?_ _ | refine blk_drew ?_ | refine blk_alloc ?_ _)); exact BK251.out⟩, ⟨by repeat (first | (with_reducible first | exact HB.out | apply below_alloc | apply pw_below_drewN | apply below_drew1 | refine below_set ?_ GE251.out) | exact HB.out)⟩⟩
 case round =>
  clear H'
  try clear p2
  obtain ⟨x8_1, rfl, HA, HK1, BK251, HB⟩ := hrel
  cases gk with
  | zero => exact absurd HA.out (by simp [veils_knot.l0])
  | succ k1 =>
    have H := HA.out
    clear HA
    simp only [veils_knot.l0] at H
    by_cases c4 : x8_1 < (l0.length : Int)
    · rw [if_pos c4] at H
      have c4b0 : decide (x8_1 < (l0.length : Int)) = true := decide_eq_true c4
      clear c4
      by_cases c5 : 0 ≤ x8_1
      · rw [if_pos c5] at H
        have c5b0 : decide (0 ≤ x8_1) = true := decide_eq_true c5
        clear c5
        by_cases c6 : x8_1 < (l0.length : Int)
        · rw [if_pos c6] at H
          have c6b0 : decide (x8_1 < (l0.length : Int)) = true := decide_eq_true c6
          clear c6
          by_cases c7 : (a1_0 == ((rd_T73 l0 x8_1).f0) && (a1_1 == ((rd_T73 l0 x8_1).f1) && (a1_2 == ((rd_T73 l0 x8_1).f2)))) = true
          · rw [if_pos c7] at H
            have c7b0 : (a1_0 == ((rd_T73 l0 x8_1).f0) && (a1_1 == ((rd_T73 l0 x8_1).f1) && (a1_2 == ((rd_T73 l0 x8_1).f2)))) = true := c7
            (try (have c7b1 : decide (a1_0 = ((rd_T73 l0 x8_1).f0) && (a1_1 == ((rd_T73 l0 x8_1).f1) && (a1_2 == ((rd_T73 l0 x8_1).f2)))) = true := by simpa using c7))
            (try (have c7b2 : (a1_0 == ((rd_T73 l0 x8_1).f0) && (a1_1 == ((rd_T73 l0 x8_1).f1) && (a1_2 == ((rd_T73 l0 x8_1).f2)))) = true := by simpa using c7))
            clear c7
            obtain rfl := Option.some.inj H
            have hcz8_0 : wr.cell? ⟨gb251, 0, none⟩ = some (.int .i64 a1_0) := (blk_cell BK251.out 0).trans rfl
            have hcz8_1 : wr.cell? ⟨gb251, 1, none⟩ = some (.int .i64 a1_1) := (blk_cell BK251.out 1).trans rfl
            have hcz8_2 : wr.cell? ⟨gb251, 2, none⟩ = some (.int .i64 a1_2) := (blk_cell BK251.out 2).trans rfl
            have hfz8_0 := blk_frozen BK251.out 0
            have hfz8_1 := blk_frozen BK251.out 1
            have hfz8_2 := blk_frozen BK251.out 2
            have p252 : 0 ≤ (x8_1 : Int) := of_decide_eq_true (by first | (with_reducible assumption) | assumption)
            have q252 : x8_1 < (l0.length : Int) := of_decide_eq_true (by first | (with_reducible assumption) | assumption)
            obtain ⟨ad252, e252, hx252_0, hx252_1, hx252_2⟩ := at_T73 HR0.out x8_1 p252 q252
            cases e252
            replace hx252_0 := (HB.out.cell (World.block_lt_of_cell? w _ hx252_0)).trans hx252_0
            replace hx252_1 := (HB.out.cell (World.block_lt_of_cell? w _ hx252_1)).trans hx252_1
            replace hx252_2 := (HB.out.cell (World.block_lt_of_cell? w _ hx252_2)).trans hx252_2
            replace p252 := eq_true p252
            replace q252 := eq_true q252
            go_wp2
            repeat (go_quiet (fail); try go_wp2)
            go_ret
            exact ⟨by first | rfl | (simp [errW_none, errW_some] <;> rfl) | (simp [*, errW_none, errW_some] <;> rfl), by repeat (first | (with_reducible first | exact HB.out | apply below_alloc | apply pw_below_drewN | apply below_drew1 | refine below_set ?_ GE251.out) | exact HB.out)⟩
          · rw [if_neg c7] at H
            have c7b0 : (a1_0 == ((rd_T73 l0 x8_1).f0) && (a1_1 == ((rd_T73 l0 x8_1).f1) && (a1_2 == ((rd_T73 l0 x8_1).f2)))) = false := by simpa using c7
            (try (have c7b1 : decide (a1_0 = ((rd_T73 l0 x8_1).f0) && (a1_1 == ((rd_T73 l0 x8_1).f1) && (a1_2 == ((rd_T73 l0 x8_1).f2)))) = false := by simpa using c7))
            (try (have c7b2 : (a1_0 == ((rd_T73 l0 x8_1).f0) && (a1_1 == ((rd_T73 l0 x8_1).f1) && (a1_2 == ((rd_T73 l0 x8_1).f2)))) = false := by simpa using c7))
            (try (have c7b3 : ¬ (a1_0 = ((rd_T73 l0 x8_1).f0) && (a1_1 == ((rd_T73 l0 x8_1).f1) && (a1_2 == ((rd_T73 l0 x8_1).f2)))) := by simpa using c7))
            clear c7
            have H' := Aside0.mk H
            clear H
            have hcz9_0 : wr.cell? ⟨gb251, 0, none⟩ = some (.int .i64 a1_0) := (blk_cell BK251.out 0).trans rfl
            have hcz9_1 : wr.cell? ⟨gb251, 1, none⟩ = some (.int .i64 a1_1) := (blk_cell BK251.out 1).trans rfl
            have hcz9_2 : wr.cell? ⟨gb251, 2, none⟩ = some (.int .i64 a1_2) := (blk_cell BK251.out 2).trans rfl
            have hfz9_0 := blk_frozen BK251.out 0
            have hfz9_1 := blk_frozen BK251.out 1
            have hfz9_2 := blk_frozen BK251.out 2
            have p252 : 0 ≤ (x8_1 : Int) := of_decide_eq_true (by first | (with_reducible assumption) | assumption)
            have q252 : x8_1 < (l0.length : Int) := of_decide_eq_true (by first | (with_reducible assumption) | assumption)
            obtain ⟨ad252, e252, hx252_0, hx252_1, hx252_2⟩ := at_T73 HR0.out x8_1 p252 q252
            cases e252
            replace hx252_0 := (HB.out.cell (World.block_lt_of_cell? w _ hx252_0)).trans hx252_0
            replace hx252_1 := (HB.out.cell (World.block_lt_of_cell? w _ hx252_1)).trans hx252_1
            replace hx252_2 := (HB.out.cell (World.block_lt_of_cell? w _ hx252_2)).trans hx252_2
            replace p252 := eq_true p252
            replace q252 := eq_true q252
            go_wp2
            repeat (go_quiet (fail); try go_wp2)
            go_roundg k1
            case measure => have := HK1.out; omega
            case rel => exact ⟨(wrap64 (x8_1 + 1)), (by first | rfl | (simp; done) | (simp [*]; done)), H', ⟨by have := HK1.out; omega⟩, ⟨by (with_reducible repeat (first | refine blk_drewN ?_ _ | refine blk_drew ?_ | refine blk_alloc ?_ _)); exact BK251.out⟩, ⟨by repeat (first | (with_reducible first | exact HB.out | apply below_alloc | apply pw_below_drewN | apply below_drew1 | refine below_set ?_ GE251.out) | exact HB.out)⟩⟩
        · rw [if_neg c6] at H
          exact absurd H (by simp)
      · rw [if_neg c5] at H
        exact absurd H (by simp)
    · rw [if_neg c4] at H
      have c4b0 : decide (x8_1 < (l0.length : Int)) = false := decide_eq_false c4
      clear c4
      obtain rfl := Option.some.inj H
      go_wp2
      repeat (go_quiet (fail); try go_wp2)
      go_ret
      exact ⟨by first | rfl | (simp [errW_none, errW_some] <;> rfl) | (simp [*, errW_none, errW_some] <;> rfl), by repeat (first | (with_reducible first | exact HB.out | apply below_alloc | apply pw_below_drewN | apply below_drew1 | refine below_set ?_ GE251.out) | exact HB.out)⟩

end Go.Proofs.Ytdinepghommchaa.V
