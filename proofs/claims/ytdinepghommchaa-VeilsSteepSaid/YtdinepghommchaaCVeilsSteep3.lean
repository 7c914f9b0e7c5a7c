/- The walks, their words and the pure laws under the claim of VeilsSteep, part: Gv, Gi, Vf32, Vf70, Vf79, Vf68, Vf69, Vf51, Vf99, Vf101, Vf74, Vf100, Vf53, Vf33, Vf54, Vf31, Vf14, Gs. -/
import Derived.Test.YtdinepghommchaaCVeilsSteep1
import Derived.Test.YtdinepghommchaaCVeilsSteep2
/- A table that the specification calls a veil is one of the veils that All lists: grown row by row, compared by the kernel. -/
namespace Go.Proofs.Ytdinepghommchaa.V
open Go.RowKit Go.Proofs.YtdinepghommchaaW.PrintWords Go.Proofs.YtdinepghommchaaW.PrintLast Go.Proofs.YtdinepghommchaaW.PrintMore

/-- All lists of a length out of candidates, each of whose beginnings is good. -/
def grow {α : Type} (cands : List α) (ok : List α → Bool) : Nat → List (List α)
 | 0 => [[]]
 | k + 1 => (grow cands ok k).flatMap fun p => (cands.map fun r => p ++ [r]).filter ok
theorem mem_grow {α : Type} {cands : List α} {ok : List α → Bool} {t : List α} (h1 : ∀ x ∈ t, x ∈ cands) (h2 : ∀ m, m ≤ t.length → ok (t.take m) = true) :
 ∀ m, m ≤ t.length → t.take m ∈ grow cands ok m
 | 0, _ => by simp [grow]
 | m + 1, hm => by
  have ih := mem_grow h1 h2 m (by omega)
  have hlt : m < t.length := by omega
  have e : t.take (m + 1) = t.take m ++ [t[m]] := by rw [List.take_add_one, List.getElem?_eq_getElem hlt]; rfl
  have hok := h2 (m + 1) hm
  rw [e] at hok ⊢
  simp only [grow, List.mem_flatMap, List.mem_filter, List.mem_map]
  exact ⟨_, ih, ⟨t[m], h1 _ (List.getElem_mem hlt), rfl⟩, hok⟩

/-- The sum of the first so many. -/
def ps (f : Nat → Int) : Nat → Int
 | 0 => 0
 | m + 1 => ps f m + f m
def at2 (t : List (List Int)) (i j : Nat) : Int := (t.getD i []).getD j 0
/-- What the specification calls a veil, without its loops. -/
structure Veil (n : Nat) (t : List (List Int)) : Prop where
 n1 : 1 ≤ n
 n5 : n ≤ 5
 len : t.length = n
 row : ∀ i, i < n → (t.getD i []).length = n
 rows : ∀ i, i < n → ∀ m, m ≤ n → 0 ≤ ps (fun j => at2 t i j) m ∧ ps (fun j => at2 t i j) m ≤ 1
 cols : ∀ i, i < n → ∀ m, m ≤ n → 0 ≤ ps (fun j => at2 t j i) m ∧ ps (fun j => at2 t j i) m ≤ 1
 rowN : ∀ i, i < n → ps (fun j => at2 t i j) n = 1
 colN : ∀ i, i < n → ps (fun j => at2 t j i) n = 1

/-- The rows that a veil can have. -/
def rowOf (n : Nat) : List (List Int) := (grow [-1, 0, 1] (fun p => decide (0 ≤ p.sum) && decide (p.sum ≤ 1)) n).filter fun p => decide (p.sum = 1)
def colSum (p : List (List Int)) (j : Nat) : Int := (p.map fun r => r.getD j 0).sum
def okCols (n : Nat) (p : List (List Int)) : Bool := (List.range n).all fun j => decide (0 ≤ colSum p j) && decide (colSum p j ≤ 1)
def veilsOf (n : Nat) : List (List (List Int)) := (grow (rowOf n) (okCols n) n).filter fun p => (List.range n).all fun j => decide (colSum p j = 1)

theorem sum_take_row {f : Nat → Int} {l : List Int} (hf : ∀ j, j < l.length → f j = l.getD j 0) : ∀ m, m ≤ l.length → (l.take m).sum = ps f m
 | 0, _ => by simp [ps]
 | m + 1, hm => by
  have hlt : m < l.length := by omega
  rw [List.take_add_one, List.getElem?_eq_getElem hlt, List.sum_append, sum_take_row hf m (by omega)]
  simp [ps, hf m hlt, List.getD_eq_getElem?_getD, List.getElem?_eq_getElem hlt]
theorem colSum_take (t : List (List Int)) (j : Nat) : ∀ m, m ≤ t.length → colSum (t.take m) j = ps (fun i => at2 t i j) m
 | 0, _ => by simp [ps, colSum]
 | m + 1, hm => by
  have hlt : m < t.length := by omega
  have ih := colSum_take t j m (by omega)
  unfold colSum at ih ⊢
  rw [List.take_add_one, List.getElem?_eq_getElem hlt, List.map_append, List.sum_append, ih]
  simp [ps, at2, List.getD_eq_getElem?_getD, List.getElem?_eq_getElem hlt]
theorem row_mem {n : Nat} {l : List Int} (hl : l.length = n) (h : ∀ m, m ≤ n → 0 ≤ (l.take m).sum ∧ (l.take m).sum ≤ 1) (hN : l.sum = 1) : l ∈ rowOf n := by
 subst hl
 have h1 : ∀ x ∈ l, x ∈ ([-1, 0, 1] : List Int) := by
  intro x hx
  obtain ⟨i, hi, rfl⟩ := List.getElem_of_mem hx
  have a := h i (by omega)
  have b := h (i + 1) (by omega)
  rw [List.take_add_one, List.getElem?_eq_getElem hi, List.sum_append] at b
  simp at b
  have : l[i] = -1 ∨ l[i] = 0 ∨ l[i] = 1 := by omega
  simpa using this
 have := mem_grow (cands := [-1, 0, 1]) (ok := fun p => decide (0 ≤ p.sum) && decide (p.sum ≤ 1)) h1 (fun m hm => by simpa using h m hm) l.length (Nat.le_refl _)
 rw [List.take_length] at this
 exact List.mem_filter.mpr ⟨this, by simpa using hN⟩
theorem Veil.mem {n : Nat} {t : List (List Int)} (h : Veil n t) : t ∈ veilsOf n := by
 obtain ⟨_, _, hl, hr, hrows, hcols, hrn, hcn⟩ := h
 subst hl
 have h1 : ∀ x ∈ t, x ∈ rowOf t.length := by
  intro x hx
  obtain ⟨i, hi, rfl⟩ := List.getElem_of_mem hx
  have e : t.getD i [] = t[i] := by simp [List.getD_eq_getElem?_getD, List.getElem?_eq_getElem hi]
  have el : t[i].length = t.length := by rw [← e]; exact hr i hi
  have hf : ∀ j, j < t[i].length → at2 t i j = t[i].getD j 0 := fun j _ => by unfold at2; rw [e]
  have hs : ∀ m, m ≤ t.length → (t[i].take m).sum = ps (fun j => at2 t i j) m := fun m hm => sum_take_row hf m (by omega)
  refine row_mem el (fun m hm => by rw [hs m hm]; exact hrows i hi m hm) ?_
  have := hs t.length (Nat.le_refl _)
  rw [hrn i hi, List.take_of_length_le (by omega)] at this
  exact this
 have := mem_grow (cands := rowOf t.length) (ok := okCols t.length) h1 (fun m hm => by
  unfold okCols
  rw [List.all_eq_true]
  intro j hj
  have hj' : j < t.length := List.mem_range.mp hj
  rw [colSum_take t j m hm]
  simpa using hcols j hj' m hm) t.length (Nat.le_refl _)
 rw [List.take_length] at this
 refine List.mem_filter.mpr ⟨this, ?_⟩
 rw [List.all_eq_true]
 intro j hj
 have hj' : j < t.length := List.mem_range.mp hj
 have := colSum_take t j t.length (Nat.le_refl _)
 rw [List.take_length, hcn j hj'] at this
 simpa using this
set_option maxRecDepth 1000000 in
theorem veilsOf1 : veilsOf 1 = veils1 := by decide +kernel
set_option maxRecDepth 1000000 in
theorem veilsOf2 : veilsOf 2 = veils2 := by decide +kernel
set_option maxRecDepth 1000000 in
theorem veilsOf3 : veilsOf 3 = veils3 := by decide +kernel
set_option maxRecDepth 1000000 in
theorem veilsOf4 : veilsOf 4 = veils4 := by decide +kernel
set_option maxRecDepth 1000000 in
theorem veilsOf5 : veilsOf 5 = veils5 := by decide +kernel
end Go.Proofs.Ytdinepghommchaa.V

/- The specification's IsVeil always answers, and where it answers true the table is a veil. -/
namespace Go.Proofs.Ytdinepghommchaa.V
open Go.RowKit Go.Proofs.YtdinepghommchaaW.PrintWords Go.Proofs.YtdinepghommchaaW.PrintLast Go.Proofs.YtdinepghommchaaW.PrintMore
theorem wr (n : Int) (h : -1000 ≤ n ∧ n ≤ 1000) : wrap64 n = n := by unfold wrap64; omega
theorem rdL1_cast (t : List (List Int)) (i : Nat) : rd_L1 t (i : Int) = t.getD i [] := by unfold rd_L1; rw [Int.toNat_natCast]
theorem rd_cast (l : List Int) (i : Nat) : rd l (i : Int) = l.getD i 0 := by unfold rd; rw [Int.toNat_natCast]
theorem wr_succ (x : Nat) (h : x ≤ 100) : wrap64 ((x : Int) + 1) = ((x + 1 : Nat) : Int) := by rw [wr _ (by omega)]; omega

theorem isVeil_l1 (t : List (List Int)) (n i : Nat) (hn : n ≤ 20) (hi : i < n) (ht : t.length = n) (hr : (t.getD i []).length = n) : ∀ d k j, j + d = n →
 clocheref09_IsVeil.l1 (k + d + 1) t n i j = some false ∨ ((∀ m, j ≤ m → m < n → -1 ≤ at2 t i m ∧ at2 t i m ≤ 1) ∧ clocheref09_IsVeil.l1 (k + d + 1) t n i j = clocheref09_IsVeil.l0 k t n (i + 1 : Nat))
 | 0, k, j, h => by
  right
  refine ⟨fun m h1 h2 => by omega, ?_⟩
  rw [Nat.add_zero, clocheref09_IsVeil.l1, if_neg (by omega), wr_succ i (by omega)]
 | d + 1, k, j, h => by
  have ih := isVeil_l1 t n i hn hi ht hr d k (j + 1) (by omega)
  rw [show k + (d + 1) + 1 = (k + d + 1) + 1 from rfl, clocheref09_IsVeil.l1, if_pos (by omega), if_pos (by omega), if_pos (by omega), if_pos (by omega), if_pos (by rw [rdL1_cast, hr]; omega), rdL1_cast, rd_cast]
  by_cases c1 : (t.getD i []).getD j 0 < -1
  · left; rw [if_pos c1]
  · rw [if_neg c1]
    by_cases c2 : (t.getD i []).getD j 0 > 1
    · left; rw [if_pos c2]
    · rw [if_neg c2, wr_succ j (by omega)]
      rcases ih with ih | ⟨ih1, ih2⟩
      · left; exact ih
      · right
        refine ⟨fun m h1 h2 => ?_, ih2⟩
        by_cases e : m = j
        · subst e; unfold at2; omega
        · exact ih1 m (by omega) h2

theorem isVeil_l3 (t : List (List Int)) (n i : Nat) (hn : n ≤ 20) (hi : i < n) (ht : t.length = n) (hr : ∀ i, i < n → (t.getD i []).length = n) (hb : ∀ i, i < n → ∀ j, j < n → -1 ≤ at2 t i j ∧ at2 t i j ≤ 1) : ∀ d k j, j + d = n →
 0 ≤ ps (fun j => at2 t i j) j ∧ ps (fun j => at2 t i j) j ≤ 1 → 0 ≤ ps (fun j => at2 t j i) j ∧ ps (fun j => at2 t j i) j ≤ 1 →
 clocheref09_IsVeil.l3 (k + d + 1) t n i (ps (fun j => at2 t i j) j) (ps (fun j => at2 t j i) j) j = some false ∨
 ((∀ m, j ≤ m → m ≤ n → (0 ≤ ps (fun j => at2 t i j) m ∧ ps (fun j => at2 t i j) m ≤ 1) ∧ 0 ≤ ps (fun j => at2 t j i) m ∧ ps (fun j => at2 t j i) m ≤ 1) ∧ ps (fun j => at2 t i j) n = 1 ∧ ps (fun j => at2 t j i) n = 1 ∧
  clocheref09_IsVeil.l3 (k + d + 1) t n i (ps (fun j => at2 t i j) j) (ps (fun j => at2 t j i) j) j = clocheref09_IsVeil.l2 k t n (i + 1 : Nat))
 | 0, k, j, h, h1, h2 => by
  obtain rfl : j = n := by omega
  rw [Nat.add_zero, clocheref09_IsVeil.l3, if_neg (by omega)]
  by_cases c1 : ps (fun j => at2 t i j) j = 1
  · rw [if_pos c1]
    by_cases c2 : ps (fun j => at2 t j i) j = 1
    · rw [if_pos c2, wr_succ i (by omega)]
      right
      refine ⟨fun m a b => ?_, c1, c2, rfl⟩
      obtain rfl : m = j := by omega
      exact ⟨h1, h2⟩
    · left; rw [if_neg c2]
  · left; rw [if_neg c1]
 | d + 1, k, j, h, h1, h2 => by
  have b1 := hb i hi j (by omega)
  have b2 := hb j (by omega) i hi
  have e1 : wrap64 (ps (fun j => at2 t i j) j + (t.getD i []).getD j 0) = ps (fun j => at2 t i j) (j + 1) := by
    rw [wr _ (by unfold at2 at b1; omega)]; rfl
  have e2 : wrap64 (ps (fun j => at2 t j i) j + (t.getD j []).getD i 0) = ps (fun j => at2 t j i) (j + 1) := by
    rw [wr _ (by unfold at2 at b2; omega)]; rfl
  rw [show k + (d + 1) + 1 = (k + d + 1) + 1 from rfl, clocheref09_IsVeil.l3, if_pos (by omega), if_pos (by omega), if_pos (by omega), if_pos (by omega), if_pos (by rw [rdL1_cast, hr i hi]; omega), if_pos (by omega), if_pos (by rw [rdL1_cast, hr j (by omega)]; omega), rdL1_cast, rdL1_cast, rd_cast, rd_cast, e1, e2]
  by_cases c1 : ps (fun j => at2 t i j) (j + 1) < 0
  · left; rw [if_pos c1]
  rw [if_neg c1]
  by_cases c2 : ps (fun j => at2 t i j) (j + 1) > 1
  · left; rw [if_pos c2]
  rw [if_neg c2]
  by_cases c3 : ps (fun j => at2 t j i) (j + 1) < 0
  · left; rw [if_pos c3]
  rw [if_neg c3]
  by_cases c4 : ps (fun j => at2 t j i) (j + 1) > 1
  · left; rw [if_pos c4]
  rw [if_neg c4, wr_succ j (by omega)]
  rcases isVeil_l3 t n i hn hi ht hr hb d k (j + 1) (by omega) ⟨by omega, by omega⟩ ⟨by omega, by omega⟩ with ih | ⟨ih1, ih2, ih3, ih4⟩
  · left; exact ih
  · right
    refine ⟨fun m a b => ?_, ih2, ih3, ih4⟩
    by_cases e : m = j
    · subst e; exact ⟨h1, h2⟩
    · exact ih1 m (by omega) b

theorem isVeil_l2 (t : List (List Int)) (n : Nat) (hn : n ≤ 20) (ht : t.length = n) (hr : ∀ i, i < n → (t.getD i []).length = n) (hb : ∀ i, i < n → ∀ j, j < n → -1 ≤ at2 t i j ∧ at2 t i j ≤ 1) : ∀ d k i, i + d = n →
 clocheref09_IsVeil.l2 (k + d * (n + 2) + 1) t n i = some false ∨
 ((∀ m, i ≤ m → m < n → (∀ j, j ≤ n → (0 ≤ ps (fun j => at2 t m j) j ∧ ps (fun j => at2 t m j) j ≤ 1) ∧ 0 ≤ ps (fun j => at2 t j m) j ∧ ps (fun j => at2 t j m) j ≤ 1) ∧ ps (fun j => at2 t m j) n = 1 ∧ ps (fun j => at2 t j m) n = 1) ∧
  clocheref09_IsVeil.l2 (k + d * (n + 2) + 1) t n i = some true)
 | 0, k, i, h => by
  right
  refine ⟨fun m a b => by omega, ?_⟩
  rw [clocheref09_IsVeil.l2, if_neg (by omega)]
 | d + 1, k, i, h => by
  rw [show k + (d + 1) * (n + 2) + 1 = (k + d * (n + 2) + 1 + n + 1) + 1 by rw [Nat.succ_mul]; omega, clocheref09_IsVeil.l2, if_pos (by omega)]
  have h3 := isVeil_l3 t n i hn (by omega) ht hr hb n (k + d * (n + 2) + 1) 0 (by omega) ⟨by simp [ps], by simp [ps]⟩ ⟨by simp [ps], by simp [ps]⟩
  rw [show ps (fun j => at2 t i j) 0 = 0 from rfl, show ps (fun j => at2 t j i) 0 = 0 from rfl] at h3
  rcases h3 with h3 | ⟨h31, h32, h33, h34⟩
  · left; exact h3
  · rw [show ((0 : Nat) : Int) = 0 from rfl] at h34
    rw [h34]
    rcases isVeil_l2 t n hn ht hr hb d k (i + 1) (by omega) with ih | ⟨ih1, ih2⟩
    · left; exact ih
    · right
      refine ⟨fun m a b => ?_, ih2⟩
      by_cases e : m = i
      · subst e; exact ⟨fun j hj => h31 j (by omega) hj, h32, h33⟩
      · exact ih1 m (by omega) b

theorem isVeil_l0 (t : List (List Int)) (n : Nat) (hn : n ≤ 20) (ht : t.length = n) : ∀ d k i, i + d = n →
 clocheref09_IsVeil.l0 (k + d * (n + 2) + 1) t n i = some false ∨
 ((∀ m, i ≤ m → m < n → (t.getD m []).length = n ∧ ∀ j, j < n → -1 ≤ at2 t m j ∧ at2 t m j ≤ 1) ∧
  clocheref09_IsVeil.l0 (k + d * (n + 2) + 1) t n i = clocheref09_IsVeil.l2 k t n 0)
 | 0, k, i, h => by
  right
  refine ⟨fun m a b => by omega, ?_⟩
  rw [show k + 0 * (n + 2) + 1 = k + 1 by omega, clocheref09_IsVeil.l0, if_neg (by omega)]
 | d + 1, k, i, h => by
  rw [show k + (d + 1) * (n + 2) + 1 = (k + d * (n + 2) + 1 + n + 1) + 1 by rw [Nat.succ_mul]; omega, clocheref09_IsVeil.l0, if_pos (by omega), if_pos (by omega), if_pos (by omega), rdL1_cast]
  by_cases c : (((t.getD i []).length : Nat) : Int) = (n : Int)
  · rw [if_pos c]
    have c' : (t.getD i []).length = n := by omega
    rcases isVeil_l1 t n i hn (by omega) ht c' n (k + d * (n + 2) + 1) 0 (by omega) with h1 | ⟨h1, h2⟩
    · left; exact h1
    · rw [show ((0 : Nat) : Int) = 0 from rfl] at h2
      rw [h2]
      rcases isVeil_l0 t n hn ht d k (i + 1) (by omega) with ih | ⟨ih1, ih2⟩
      · left; exact ih
      · right
        refine ⟨fun m a b => ?_, ih2⟩
        by_cases e : m = i
        · subst e; exact ⟨c', fun j hj => h1 j (by omega) hj⟩
        · exact ih1 m (by omega) b
  · left; rw [if_neg c]

theorem isVeil_spec (t : List (List Int)) : clocheref09_IsVeil.f 100 t = some false ∨ (clocheref09_IsVeil.f 100 t = some true ∧ Veil t.length t) := by
 unfold clocheref09_IsVeil.f
 by_cases c1 : (t.length : Int) < 1
 · left; rw [if_pos c1, clocheref09_IsVeil.j0, if_pos rfl]
 rw [if_neg c1]
 by_cases c2 : (t.length : Int) > 5
 · left; rw [decide_eq_true c2, clocheref09_IsVeil.j0, if_pos rfl]
 rw [decide_eq_false c2, clocheref09_IsVeil.j0, if_neg (by decide)]
 obtain ⟨n, hn⟩ : ∃ n, n = t.length := ⟨_, rfl⟩
 rw [← hn] at c1 c2 ⊢
 have h5 : n ≤ 5 := by omega
 have h7 : n * (n + 2) ≤ 5 * 7 := Nat.mul_le_mul h5 (by omega)
 rcases isVeil_l0 t n (by omega) hn.symm n (98 - n * (n + 2)) 0 (by omega) with h0 | ⟨h0, e0⟩
 · left; rw [show 98 - n * (n + 2) + n * (n + 2) + 1 = 99 by omega] at h0; exact h0
 rw [show 98 - n * (n + 2) + n * (n + 2) + 1 = 99 by omega, show ((0 : Nat) : Int) = 0 from rfl] at e0
 rw [e0]
 rcases isVeil_l2 t n (by omega) hn.symm (fun i hi => (h0 i (by omega) hi).1) (fun i hi => (h0 i (by omega) hi).2) n (98 - n * (n + 2) - n * (n + 2) - 1) 0 (by omega) with h2 | ⟨h2, e2⟩
 · left; rw [show 98 - n * (n + 2) - n * (n + 2) - 1 + n * (n + 2) + 1 = 98 - n * (n + 2) by omega] at h2; exact h2
 rw [show 98 - n * (n + 2) - n * (n + 2) - 1 + n * (n + 2) + 1 = 98 - n * (n + 2) by omega] at e2
 right
 exact ⟨e2, by omega, h5, hn.symm, fun i hi => (h0 i (by omega) hi).1, fun i hi m hm => ((h2 i (by omega) hi).1 m hm).1, fun i hi m hm => ((h2 i (by omega) hi).1 m hm).2, fun i hi => (h2 i (by omega) hi).2.1, fun i hi => (h2 i (by omega) hi).2.2⟩

/-- All veils. -/
def veilsAll : List (List (List Int)) := veils1 ++ veils2 ++ veils3 ++ veils4 ++ veils5
/-- What is true of all listed veils is true of all tables that are veils. -/
theorem of_veil {P : List (List Int) → Bool} (hP : veilsAll.all P = true) {t : List (List Int)} (h : Veil t.length t) : P t = true := by
 have hm := h.mem
 have a := List.all_eq_true.mp hP
 refine a t ?_
 have h1 := h.n1
 have h5 := h.n5
 generalize t.length = n at hm h1 h5
 have hn : n = 1 ∨ n = 2 ∨ n = 3 ∨ n = 4 ∨ n = 5 := by omega
 unfold veilsAll
 simp only [List.mem_append]
 rcases hn with rfl | rfl | rfl | rfl | rfl
 · rw [veilsOf1] at hm; simp [hm]
 · rw [veilsOf2] at hm; simp [hm]
 · rw [veilsOf3] at hm; simp [hm]
 · rw [veilsOf4] at hm; simp [hm]
 · rw [veilsOf5] at hm; simp [hm]
end Go.Proofs.Ytdinepghommchaa.V

-- Written by a program of this session over the kit's printer: wip/gp.py.
namespace Go.Proofs.Ytdinepghommchaa.V
open Go.RowKit Go.Proofs.YtdinepghommchaaW.PrintWords Go.Proofs.YtdinepghommchaaW.PrintLast Go.Proofs.YtdinepghommchaaW.PrintMore
attribute [local go_sem] max2_int min2_int max_two min_two max_three min_three max_four min_four   -- for this text's walks alone
set_option linter.unusedVariables false
set_option linter.unusedSimpArgs false

/-! ### clochelaw09_fair: function 32 -/
mutual
def clochelaw09_fair.j0 : Nat → List (List Int) → Int → Bool → Option (Bool)
 | 0, _, _, _ => none
 | k + 1, x0, x3, x15 => if x15 = true then (some false) else (clochelaw09_fair.l0 k x0 x3 0)
def clochelaw09_fair.l0 : Nat → List (List Int) → Int → Int → Option (Bool)
 | 0, _, _, _ => none
 | k + 1, x0, x3, x4 => if x4 < x3 then (if 0 ≤ x4 then (if x4 < (x0.length : Int) then (if ((rd_L1 x0 x4).length : Int) = (wrap64 (x4 + 1)) then (clochelaw09_fair.l1 k x0 x3 x4 0) else (some false)) else (none)) else (none)) else (clochelaw09_fair.l2 k x0 x3 0)
def clochelaw09_fair.l1 : Nat → List (List Int) → Int → Int → Int → Option (Bool)
 | 0, _, _, _, _ => none
 | k + 1, x0, x3, x4, x5 => if x5 ≤ x4 then (if 0 ≤ x4 then (if x4 < (x0.length : Int) then (if 0 ≤ x5 then (if x5 < ((rd_L1 x0 x4).length : Int) then (if (rd (rd_L1 x0 x4) x5) < 1 then (some false) else (if (rd (rd_L1 x0 x4) x5) > x3 then (some false) else (if x5 > 0 then (if 0 ≤ (wrap64 (x5 - 1)) then (if (wrap64 (x5 - 1)) < ((rd_L1 x0 x4).length : Int) then (if (rd (rd_L1 x0 x4) x5) ≤ (rd (rd_L1 x0 x4) (wrap64 (x5 - 1))) then (some false) else (clochelaw09_fair.l1 k x0 x3 x4 (wrap64 (x5 + 1)))) else (none)) else (none)) else (clochelaw09_fair.l1 k x0 x3 x4 (wrap64 (x5 + 1)))))) else (none)) else (none)) else (none)) else (none)) else (clochelaw09_fair.l0 k x0 x3 (wrap64 (x4 + 1)))
def clochelaw09_fair.l2 : Nat → List (List Int) → Int → Int → Option (Bool)
 | 0, _, _, _ => none
 | k + 1, x0, x3, x6 => if (wrap64 (x6 + 1)) < x3 then (clochelaw09_fair.l3 k x0 x3 x6 0) else (some true)
def clochelaw09_fair.l3 : Nat → List (List Int) → Int → Int → Int → Option (Bool)
 | 0, _, _, _, _ => none
 | k + 1, x0, x3, x6, x7 => if x7 ≤ x6 then (if 0 ≤ x6 then (if x6 < (x0.length : Int) then (if 0 ≤ x7 then (if x7 < ((rd_L1 x0 x6).length : Int) then (if 0 ≤ (wrap64 (x6 + 1)) then (if (wrap64 (x6 + 1)) < (x0.length : Int) then (if x7 < ((rd_L1 x0 (wrap64 (x6 + 1))).length : Int) then (if (rd (rd_L1 x0 x6) x7) < (rd (rd_L1 x0 (wrap64 (x6 + 1))) x7) then (some false) else (if 0 ≤ (wrap64 (x7 + 1)) then (if (wrap64 (x7 + 1)) < ((rd_L1 x0 (wrap64 (x6 + 1))).length : Int) then (if (rd (rd_L1 x0 x6) x7) > (rd (rd_L1 x0 (wrap64 (x6 + 1))) (wrap64 (x7 + 1))) then (some false) else (clochelaw09_fair.l3 k x0 x3 x6 (wrap64 (x7 + 1)))) else (none)) else (none))) else (none)) else (none)) else (none)) else (none)) else (none)) else (none)) else (none)) else (clochelaw09_fair.l2 k x0 x3 (wrap64 (x6 + 1)))
end
def clochelaw09_fair.f (k : Nat) (l0 : List (List Int)) : Option (Bool) := if (l0.length : Int) < 1 then (clochelaw09_fair.j0 k l0 (l0.length : Int) true) else (clochelaw09_fair.j0 k l0 (l0.length : Int) (decide ((l0.length : Int) > 5)))
end Go.Proofs.Ytdinepghommchaa.V

-- Written by a program of this session over the kit's printer: wip/gp.py.
namespace Go.Proofs.Ytdinepghommchaa.V
open Go.RowKit Go.Proofs.YtdinepghommchaaW.PrintWords Go.Proofs.YtdinepghommchaaW.PrintLast Go.Proofs.YtdinepghommchaaW.PrintMore
attribute [local go_sem] max2_int min2_int max_two min_two max_three min_three max_four min_four   -- for this text's walks alone
set_option linter.unusedVariables false
set_option linter.unusedSimpArgs false

/-! ### veils_alternates: function 70 -/
def veils_alternates.l0 : Nat → Int → List Int → Int → Int → Option (Bool)
 | 0, _, _, _, _ => none
 | k + 1, x3, x6, x7, x8 => if x8 < x7 then (if 0 ≤ x8 then (if x8 < (x6.length : Int) then (if (rd x6 x8) < (-1) then (some false) else (if (rd x6 x8) > 1 then (some false) else (if (wrap64 (x3 + (rd x6 x8))) < 0 then (some false) else (if (wrap64 (x3 + (rd x6 x8))) > 1 then (some false) else (veils_alternates.l0 k (wrap64 (x3 + (rd x6 x8))) x6 x7 (wrap64 (x8 + 1))))))) else (none)) else (none)) else (some (x3 == 1))
def veils_alternates.f (k : Nat) (l0 : List Int) : Option (Bool) := veils_alternates.l0 k 0 l0 (l0.length : Int) 0
theorem veils_alternates.mono_l : ∀ k, (∀ y0 y1 y2 y3, LeO (veils_alternates.l0 k y0 y1 y2 y3) (veils_alternates.l0 (k + 1) y0 y1 y2 y3))
 | 0 => fun _ _ _ _ r h => by simp [veils_alternates.l0] at h
 | k + 1 => by
  have ih0 := veils_alternates.mono_l k
  · intro y0 y1 y2 y3
    unfold veils_alternates.l0
    repeat' first
    | (with_reducible exact ih0 _ _ _ _)
    | (with_reducible exact LeO.refl _)
    | (with_reducible exact LeO.none _)
    | (with_reducible refine LeO.ite ?_ ?_)
    | (with_reducible refine LeO.bind ?_ (fun _ => ?_))
    | exact ih0 _ _ _ _
    | exact LeO.none _
    | refine LeO.ite ?_ ?_
    | refine LeO.bind ?_ (fun _ => ?_)
theorem veils_alternates.mono : ∀ a0 k, LeO (veils_alternates.f k a0) (veils_alternates.f (k + 1) a0) := by
 intro a0 k
 have ih0 := veils_alternates.mono_l k
 unfold veils_alternates.f
 repeat' first
  | (with_reducible exact ih0 _ _ _ _)
  | (with_reducible exact LeO.refl _)
  | (with_reducible exact LeO.none _)
  | (with_reducible refine LeO.ite ?_ ?_)
  | (with_reducible refine LeO.bind ?_ (fun _ => ?_))
  | exact ih0 _ _ _ _
  | exact LeO.none _
  | refine LeO.ite ?_ ?_
  | refine LeO.bind ?_ (fun _ => ?_)
set_option maxHeartbeats 8000000 in
set_option maxRecDepth 100000 in
theorem veils_alternates.calls (k : Nat) (A0 : Option Addr) (c0 : Nat) (l0 : List Int) (r : Bool) (w : World) (hr0 : Kd.C (Kd.int .i64) w A0 l0.length l0) (hc0 : l0.length ≤ c0) (h : veils_alternates.f k l0 = some r) :
 Calls Try.prog 70 #[.slice A0 l0.length c0] w fun e w' => e = .returned (.bool r) ∧ Drawn0 w w' := by
 have HR0 := Aside0.mk hr0
 have HC0 := Aside0.mk hc0
 clear hr0 hc0
 have H : (veils_alternates.l0 k 0 l0 (l0.length : Int) 0) = some r := h
 clear h
 have H' := Aside0.mk H
 clear H
 go_enter Try.func70, Try.ntmps70
 go_wp2
 go_loopg [3, 8] k (fun kq v3 v8 w' => ∃ (x3_1 : Int) (x8_1 : Int), v3 = .int .i64 x3_1 ∧ v8 = .int .i64 x8_1 ∧ Aside0 (veils_alternates.l0 kq x3_1 l0 (l0.length : Int) x8_1 = some r) ∧ Aside0 (kq ≤ k) ∧ Drawn0 w w')
 case atStart => exact ⟨(0), (0), rf_, rf_, H', ⟨Nat.le_refl _⟩, dr_⟩
 case round =>
  clear H'
  obtain ⟨x3_1, x8_1, rfl, rfl, HA, HK1, ⟨m1, rfl⟩⟩ := hrel
  cases gk with
  | zero => exact absurd HA.out (by simp [veils_alternates.l0])
  | succ k1 =>
    have H := HA.out
    clear HA
    simp only [veils_alternates.l0] at H
    by_cases c2 : x8_1 < (l0.length : Int)
    · rw [if_pos c2] at H
      have c2b0 : decide (x8_1 < (l0.length : Int)) = true := decide_eq_true c2
      clear c2
      by_cases c3 : 0 ≤ x8_1
      · rw [if_pos c3] at H
        have c3b0 : decide (0 ≤ x8_1) = true := decide_eq_true c3
        clear c3
        by_cases c4 : x8_1 < (l0.length : Int)
        · rw [if_pos c4] at H
          have c4b0 : decide (x8_1 < (l0.length : Int)) = true := decide_eq_true c4
          clear c4
          by_cases c5 : (rd l0 x8_1) < (-1)
          · rw [if_pos c5] at H
            have c5b0 : decide ((rd l0 x8_1) < (-1)) = true := decide_eq_true c5
            clear c5
            obtain rfl := Option.some.inj H
            obtain ⟨ad127, e127, hx127_0, p127, q127⟩ := ai_ HR0.out x8_1
            cases e127
            go_wp2
            go_ret
            exact ⟨rf_, dr_⟩
          · rw [if_neg c5] at H
            have c5b0 : decide ((rd l0 x8_1) < (-1)) = false := decide_eq_false c5
            clear c5
            by_cases c6 : (rd l0 x8_1) > 1
            · rw [if_pos c6] at H
              have c6b0 : decide (1 < (rd l0 x8_1)) = true := decide_eq_true c6
              clear c6
              obtain rfl := Option.some.inj H
              obtain ⟨ad127, e127, hx127_0, p127, q127⟩ := ai_ HR0.out x8_1
              cases e127
              go_wp2
              go_ret
              exact ⟨rf_, dr_⟩
            · rw [if_neg c6] at H
              have c6b0 : decide (1 < (rd l0 x8_1)) = false := decide_eq_false c6
              clear c6
              by_cases c7 : (wrap64 (x3_1 + (rd l0 x8_1))) < 0
              · rw [if_pos c7] at H
                have c7b0 : decide ((wrap64 (x3_1 + (rd l0 x8_1))) < 0) = true := decide_eq_true c7
                clear c7
                obtain rfl := Option.some.inj H
                obtain ⟨ad127, e127, hx127_0, p127, q127⟩ := ai_ HR0.out x8_1
                cases e127
                go_wp2
                go_ret
                exact ⟨rf_, dr_⟩
              · rw [if_neg c7] at H
                have c7b0 : decide ((wrap64 (x3_1 + (rd l0 x8_1))) < 0) = false := decide_eq_false c7
                clear c7
                by_cases c8 : (wrap64 (x3_1 + (rd l0 x8_1))) > 1
                · rw [if_pos c8] at H
                  have c8b0 : decide (1 < (wrap64 (x3_1 + (rd l0 x8_1)))) = true := decide_eq_true c8
                  clear c8
                  obtain rfl := Option.some.inj H
                  obtain ⟨ad127, e127, hx127_0, p127, q127⟩ := ai_ HR0.out x8_1
                  cases e127
                  go_wp2
                  go_ret
                  exact ⟨rf_, dr_⟩
                · rw [if_neg c8] at H
                  have c8b0 : decide (1 < (wrap64 (x3_1 + (rd l0 x8_1)))) = false := decide_eq_false c8
                  clear c8
                  have H' := Aside0.mk H
                  clear H
                  obtain ⟨ad127, e127, hx127_0, p127, q127⟩ := ai_ HR0.out x8_1
                  cases e127
                  go_wp2
                  go_roundg k1
                  case measure => have := HK1.out; omega
                  case rel => exact ⟨(wrap64 (x3_1 + (rd l0 x8_1))), (wrap64 (x8_1 + 1)), rf_, rf_, H', ⟨by have := HK1.out; omega⟩, dr_⟩
        · rw [if_neg c4] at H
          exact absurd H (by simp)
      · rw [if_neg c3] at H
        exact absurd H (by simp)
    · rw [if_neg c2] at H
      have c2b0 : decide (x8_1 < (l0.length : Int)) = false := decide_eq_false c2
      clear c2
      obtain rfl := Option.some.inj H
      go_wp2
      go_ret
      exact ⟨rf_, dr_⟩

end Go.Proofs.Ytdinepghommchaa.V

-- Written by a program of this session over the kit's printer: wip/gp.py.
namespace Go.Proofs.Ytdinepghommchaa.V
open Go.RowKit Go.Proofs.YtdinepghommchaaW.PrintWords Go.Proofs.YtdinepghommchaaW.PrintLast Go.Proofs.YtdinepghommchaaW.PrintMore
attribute [local go_sem] max2_int min2_int max_two min_two max_three min_three max_four min_four   -- for this text's walks alone
set_option linter.unusedVariables false
set_option linter.unusedSimpArgs false

/-! ### slices_IndexFunc_int_int: function 79 -/
def slices_IndexFunc_int_int.l0 (g : List Int → Option Bool) : Nat → List (List Int) → Int → Int → Option (Int)
 | 0, _, _, _ => none
 | k + 1, x0, x7, x8 => if x8 < x7 then (if 0 ≤ x8 then (if x8 < (x0.length : Int) then ((g (rd_L1 x0 x8)).bind fun t102 => (if t102 = true then (some x8) else (slices_IndexFunc_int_int.l0 g k x0 x7 (wrap64 (x8 + 1))))) else (none)) else (none)) else (some (-1))
def slices_IndexFunc_int_int.f (g : List Int → Option Bool) (k : Nat) (l0 : List (List Int)) : Option (Int) := slices_IndexFunc_int_int.l0 g k l0 (l0.length : Int) 0
set_option maxHeartbeats 8000000 in
set_option maxRecDepth 100000 in
theorem slices_IndexFunc_int_int.calls (g : List Int → Option Bool) {fid : FuncId} {fn : Func} (hfn : Try.prog.funcs[fid]? = some fn) (hnm : (fn.name == "runtime.NumGoroutine") = false) (hbd : fn.body.isSome = true) (caps : Array Value) (k : Nat) (A0 : Option Addr) (c0 : Nat) (l0 : List (List Int)) (r : Int) (w : World) (hg_ : Aside0 (∀ (A : Option Addr) (c : Nat) (row : List Int) (x : Bool) (W : World), Drawn0 w W → Kd.C (Kd.int .i64) W A row.length row → row.length ≤ c → g row = some x → Calls Try.prog fid (#[.slice A row.length c] ++ caps) W fun e W' => e = .returned (.bool x) ∧ Drawn0 W W')) (hr0 : Kd.C (Kd.slice 3 (Kd.int .i64)) w A0 l0.length l0) (hc0 : l0.length ≤ c0) (h : slices_IndexFunc_int_int.f g k l0 = some r) :
 Calls Try.prog 79 #[.slice A0 l0.length c0, .func (.func fid) #[] caps] w fun e w' => e = .returned (.int .i64 r) ∧ Drawn0 w w' := by
 have HR0 := Aside0.mk hr0
 have HC0 := Aside0.mk hc0
 clear hr0 hc0
 have H : (slices_IndexFunc_int_int.l0 g k l0 (l0.length : Int) 0) = some r := h
 clear h
 have H' := Aside0.mk H
 clear H
 have hcf : ∀ (args : Array Value) (w : World), (callFunc fid args).run Try.prog w = .ok (.enter fid args) w := enters_ hfn hnm hbd
 go_enter Try.func79, Try.ntmps79
 go_wp2
 go_loopg [8] k (fun kq v8 w' => ∃ (x8_1 : Int), v8 = .int .i64 x8_1 ∧ Aside0 (slices_IndexFunc_int_int.l0 g kq l0 (l0.length : Int) x8_1 = some r) ∧ Aside0 (kq ≤ k) ∧ Drawn0 w w')
 case atStart => exact ⟨(0), rf_, H', ⟨Nat.le_refl _⟩, dr_⟩
 case round =>
  clear H'
  try clear p2
  obtain ⟨x8_1, rfl, HA, HK1, ⟨m1, rfl⟩⟩ := hrel
  cases gk with
  | zero => exact absurd HA.out (by simp [slices_IndexFunc_int_int.l0])
  | succ k1 =>
   have H := HA.out
   clear HA
   simp only [slices_IndexFunc_int_int.l0] at H
   by_cases c3 : x8_1 < (l0.length : Int)
   · rw [if_pos c3] at H
     have c3b0 : decide (x8_1 < (l0.length : Int)) = true := decide_eq_true c3
     clear c3
     by_cases c4 : 0 ≤ x8_1
     · rw [if_pos c4] at H
       have c4b0 : decide (0 ≤ x8_1) = true := decide_eq_true c4
       clear c4
       by_cases c5 : x8_1 < (l0.length : Int)
       · rw [if_pos c5] at H
         have c5b0 : decide (x8_1 < (l0.length : Int)) = true := decide_eq_true c5
         clear c5
         replace H := Option.bind_eq_some_iff.mp H
         obtain ⟨t102, A60, H⟩ := H
         replace H : (if t102 = true then (some x8_1) else (slices_IndexFunc_int_int.l0 g k1 l0 (l0.length : Int) (wrap64 (x8_1 + 1)))) = some r := H
         have A6 := Aside0.mk A60
         clear A60
         by_cases c7 : t102 = true
         · subst c7
           have H1 : (some x8_1) = some r := by rw [if_pos rfl] at H; exact H
           clear H
           have H := H1
           clear H1
           obtain rfl := Option.some.inj H
           obtain ⟨ad101, A101_0, c101_0, e101, hx101_0, HC101_0, HR101_0, p101, q101⟩ := al_ HR0.out x8_1
           cases e101
           go_wp2_with (first | ((with_reducible refine (hg_.out _ _ (rd_L1 l0 x8_1) true _ ?d1 ?side1 ?side2 A6.out).mono ?_); (case d1 => repeat (first | exact Drawn0.refl _ | apply Drawn0.step)); (case side1 => repeat (first | exact HR101_0.out | (with_reducible refine Kd.C_alloc ?_ _) | (with_reducible refine Kd.C_drewN ?_ _) | (with_reducible refine Kd.C_drew ?_))); (case side2 => exact HC101_0.out); rintro e w' ⟨rfl, ⟨nd, rfl⟩⟩))
           go_ret
           exact ⟨rf_, dr_⟩
         · replace c7 := Bool.eq_false_iff.mpr c7
           subst c7
           have H1 : (slices_IndexFunc_int_int.l0 g k1 l0 (l0.length : Int) (wrap64 (x8_1 + 1))) = some r := by rw [if_neg (show ¬ (false = true) by decide)] at H; exact H
           clear H
           have H := H1
           clear H1
           have H' := Aside0.mk H
           clear H
           obtain ⟨ad101, A101_0, c101_0, e101, hx101_0, HC101_0, HR101_0, p101, q101⟩ := al_ HR0.out x8_1
           cases e101
           go_wp2_with (first | ((with_reducible refine (hg_.out _ _ (rd_L1 l0 x8_1) false _ ?d1 ?side1 ?side2 A6.out).mono ?_); (case d1 => repeat (first | exact Drawn0.refl _ | apply Drawn0.step)); (case side1 => repeat (first | exact HR101_0.out | (with_reducible refine Kd.C_alloc ?_ _) | (with_reducible refine Kd.C_drewN ?_ _) | (with_reducible refine Kd.C_drew ?_))); (case side2 => exact HC101_0.out); rintro e w' ⟨rfl, ⟨nd, rfl⟩⟩))
           go_roundg k1
           case measure => have := HK1.out; omega
           case rel => exact ⟨(wrap64 (x8_1 + 1)), rf_, H', ⟨by have := HK1.out; omega⟩, dr_⟩
       · rw [if_neg c5] at H
         exact absurd H (by simp)
     · rw [if_neg c4] at H
       exact absurd H (by simp)
   · rw [if_neg c3] at H
     have c3b0 : decide (x8_1 < (l0.length : Int)) = false := decide_eq_false c3
     clear c3
     obtain rfl := Option.some.inj H
     go_wp2
     go_ret
     exact ⟨rf_, dr_⟩

end Go.Proofs.Ytdinepghommchaa.V

-- Written by a program of this session over the kit's printer: wip/gp.py.
namespace Go.Proofs.Ytdinepghommchaa.V
open Go.RowKit Go.Proofs.YtdinepghommchaaW.PrintWords Go.Proofs.YtdinepghommchaaW.PrintLast Go.Proofs.YtdinepghommchaaW.PrintMore
attribute [local go_sem] max2_int min2_int max_two min_two max_three min_three max_four min_four   -- for this text's walks alone
set_option linter.unusedVariables false
set_option linter.unusedSimpArgs false

/-! ### slices_ContainsFunc_int_int: function 68 -/
def slices_ContainsFunc_int_int.f (g : List Int → Option Bool) (k : Nat) (l0 : List (List Int)) : Option (Bool) := (slices_IndexFunc_int_int.f g k l0).bind fun t103 => (some (decide (t103 ≥ 0)))
set_option maxHeartbeats 8000000 in
set_option maxRecDepth 100000 in
theorem slices_ContainsFunc_int_int.calls (g : List Int → Option Bool) {fid : FuncId} {fn : Func} (hfn : Try.prog.funcs[fid]? = some fn) (hnm : (fn.name == "runtime.NumGoroutine") = false) (hbd : fn.body.isSome = true) (caps : Array Value) (k : Nat) (A0 : Option Addr) (c0 : Nat) (l0 : List (List Int)) (r : Bool) (w : World) (hg_ : Aside0 (∀ (A : Option Addr) (c : Nat) (row : List Int) (x : Bool) (W : World), Drawn0 w W → Kd.C (Kd.int .i64) W A row.length row → row.length ≤ c → g row = some x → Calls Try.prog fid (#[.slice A row.length c] ++ caps) W fun e W' => e = .returned (.bool x) ∧ Drawn0 W W')) (hr0 : Kd.C (Kd.slice 3 (Kd.int .i64)) w A0 l0.length l0) (hc0 : l0.length ≤ c0) (h : slices_ContainsFunc_int_int.f g k l0 = some r) :
 Calls Try.prog 68 #[.slice A0 l0.length c0, .func (.func fid) #[] caps] w fun e w' => e = .returned (.bool r) ∧ Drawn0 w w' := by
 have HR0 := Aside0.mk hr0
 have HC0 := Aside0.mk hc0
 clear hr0 hc0
 have H : ((slices_IndexFunc_int_int.f g k l0).bind fun t103 => (some (decide (t103 ≥ 0)))) = some r := h
 clear h
 replace H := Option.bind_eq_some_iff.mp H
 obtain ⟨t103, A30, H⟩ := H
 replace H : (some (decide (t103 ≥ 0))) = some r := H
 have A3 := Aside0.mk A30
 clear A30
 obtain rfl := Option.some.inj H
 go_enter Try.func68, Try.ntmps68
 go_wp2_with (first | ((with_reducible refine gate_callee (f := 79) rfl ?_); refine goesL_ (some 7) rfl rfl Try.func79 (by kernel_rfl) rfl #[.slice A0 l0.length c0, .func (.func fid) #[] caps] rfl ar_ ?_; (with_reducible refine (slices_IndexFunc_int_int.calls g hfn hnm hbd caps k _ _ l0 t103 _ ⟨fun A c row x W hd => hg_.out A c row x W hd⟩ ?side1 ?side2 A3.out).mono ?_); (case side1 => repeat (first | exact HR0.out | (with_reducible refine Kd.C_alloc ?_ _) | (with_reducible refine Kd.C_drewN ?_ _) | (with_reducible refine Kd.C_drew ?_))); (case side2 => exact HC0.out); rintro e w' ⟨rfl, ⟨nd, rfl⟩⟩; refine ⟨_, rfl, ?_⟩))
 go_ret
 exact ⟨rf_, dr_⟩

end Go.Proofs.Ytdinepghommchaa.V

/- The walk of read's closure: a row has another length, or does not alternate. -/
namespace Go.Proofs.Ytdinepghommchaa.V
open Go.RowKit Go.Proofs.YtdinepghommchaaW.PrintWords Go.Proofs.YtdinepghommchaaW.PrintLast Go.Proofs.YtdinepghommchaaW.PrintMore
set_option linter.unusedVariables false
set_option linter.unusedSimpArgs false

def veils_read1.f (L : List (List Int)) (row : List Int) : Option Bool := if row.length = L.length then (veils_alternates.f 1000 row).bind fun b => some (!b) else some true

set_option maxHeartbeats 400000 in
set_option maxRecDepth 100000 in
theorem veils_read1.calls (L : List (List Int)) (AL : Option Addr) (cL bx : Nat) (A : Option Addr) (c : Nat) (row : List Int) (x : Bool) (w : World) (hb : Aside0 (w.heap[bx]? = some (.cells #[.slice AL L.length cL] 27 (0, 0))))
 (hr : Aside0 (Kd.C (Kd.int .i64) w A row.length row)) (hc : Aside0 (row.length ≤ c)) (h : veils_read1.f L row = some x) :
 Calls Try.prog 69 #[.slice A row.length c, .pointer (some ⟨bx, 0, none⟩)] w fun e w' => e = .returned (.bool x) ∧ Drawn0 w w' := by
 have hcell : w.cell? ⟨bx, 0, none⟩ = some (.slice AL L.length cL) := (blk_cell hb.out 0).trans rfl
 unfold veils_read1.f at h
 by_cases e : row.length = L.length
 · rw [if_pos e] at h
   obtain ⟨b, hb1, h⟩ := Option.bind_eq_some_iff.mp h
   have S1 := Aside0.mk hb1
   obtain rfl := Option.some.inj h
   have e1 : ((row.length : Int) != (L.length : Int)) = false := by simp [e]
   have e2 : ((row.length : Int) == (L.length : Int)) = true := by simp [e]
   have E := Aside0.mk e
   clear h hb1 e
   go_enter Try.func69, Try.ntmps69
   go_wp2_with (go_at_call 70; (with_reducible refine (veils_alternates.calls 1000 A c row b _ hr.out hc.out S1.out).mono ?_); rintro e w' ⟨rfl, ⟨nd, rfl⟩⟩)
   all_goals go_ret
   all_goals exact ⟨by simp_all, dr_⟩
 · rw [if_neg e] at h
   obtain rfl := Option.some.inj h
   have e1 : ((row.length : Int) != (L.length : Int)) = true := by simp; omega
   have e2 : ((row.length : Int) == (L.length : Int)) = false := by simp; omega
   clear h e
   go_enter Try.func69, Try.ntmps69
   go_wp2
   all_goals go_ret
   all_goals exact ⟨by simp_all, dr_⟩
end Go.Proofs.Ytdinepghommchaa.V

-- Written by a program of this session over the kit's printer: wip/gp.py.
namespace Go.Proofs.Ytdinepghommchaa.V
open Go.RowKit Go.Proofs.YtdinepghommchaaW.PrintWords Go.Proofs.YtdinepghommchaaW.PrintLast Go.Proofs.YtdinepghommchaaW.PrintMore
attribute [local go_sem] max2_int min2_int max_two min_two max_three min_three max_four min_four   -- for this text's walks alone
set_option linter.unusedVariables false
set_option linter.unusedSimpArgs false

/-! ### veils_read: function 51 -/
mutual
def veils_read.j0 : Nat → List (List Int) → Bool → Option ((List (List Int)) × Bool)
 | 0, _, _ => none
 | k + 1, x1, x20 => if x20 = true then (some (([] : List (List Int)), false)) else (veils_read.l0 k x1 (x1.length : Int) 0)
def veils_read.l0 : Nat → List (List Int) → Int → Int → Option ((List (List Int)) × Bool)
 | 0, _, _, _ => none
 | k + 1, x1, x22, x23 => if x23 < x22 then (veils_read.l1 k x1 x23 ([] : List Int) x22 x23 x1 (x1.length : Int) 0) else (some (x1, true))
def veils_read.l1 : Nat → List (List Int) → Int → List Int → Int → Int → List (List Int) → Int → Int → Option ((List (List Int)) × Bool)
 | 0, _, _, _, _, _, _, _, _ => none
 | k + 1, x1, x4, x5, x22, x23, x26, x27, x28 => if x28 < x27 then (if 0 ≤ x28 then (if x28 < (x26.length : Int) then (if 0 ≤ x4 then (if x4 < ((rd_L1 x26 x28).length : Int) then (if x5.length < 17592186044416 then (veils_read.l1 k x1 x4 (x5 ++ [rd (rd_L1 x26 x28) x4]) x22 x23 x26 x27 (wrap64 (x28 + 1))) else (none)) else (none)) else (none)) else (none)) else (none)) else ((veils_alternates.f k x5).bind fun t107 => (if t107 = true then (veils_read.l0 k x1 x22 (wrap64 (x23 + 1))) else (some (([] : List (List Int)), false))))
end
def veils_read.f (k : Nat) (l0 : List (List Int)) : Option ((List (List Int)) × Bool) := if (l0.length : Int) < 1 then (veils_read.j0 k l0 true) else (if (l0.length : Int) > 5 then (veils_read.j0 k l0 true) else ((slices_ContainsFunc_int_int.f (veils_read1.f l0) 1000 l0).bind fun t101 => (veils_read.j0 k l0 t101)))
theorem veils_read.mono_l : ∀ k, (∀ y0 y1, LeO (veils_read.j0 k y0 y1) (veils_read.j0 (k + 1) y0 y1)) ∧ (∀ y0 y1 y2, LeO (veils_read.l0 k y0 y1 y2) (veils_read.l0 (k + 1) y0 y1 y2)) ∧ (∀ y0 y1 y2 y3 y4 y5 y6 y7, LeO (veils_read.l1 k y0 y1 y2 y3 y4 y5 y6 y7) (veils_read.l1 (k + 1) y0 y1 y2 y3 y4 y5 y6 y7))
 | 0 => ⟨fun _ _ r h => by simp [veils_read.j0] at h, fun _ _ _ r h => by simp [veils_read.l0] at h, fun _ _ _ _ _ _ _ _ r h => by simp [veils_read.l1] at h⟩
 | k + 1 => by
  obtain ⟨ih0, ih1, ih2⟩ := veils_read.mono_l k
  refine ⟨?_, ?_, ?_⟩
  · intro y0 y1
    unfold veils_read.j0
    repeat' first
    | (with_reducible exact ih0 _ _)
    | (with_reducible exact ih1 _ _ _)
    | (with_reducible exact ih2 _ _ _ _ _ _ _ _)
    | (with_reducible exact veils_alternates.mono _ _)
    | (with_reducible exact LeO.refl _)
    | (with_reducible exact LeO.none _)
    | (with_reducible refine LeO.ite ?_ ?_)
    | (with_reducible refine LeO.bind ?_ (fun _ => ?_))
    | exact ih0 _ _
    | exact ih1 _ _ _
    | exact ih2 _ _ _ _ _ _ _ _
    | exact veils_alternates.mono _ _
    | exact LeO.none _
    | refine LeO.ite ?_ ?_
    | refine LeO.bind ?_ (fun _ => ?_)
  · intro y0 y1 y2
    unfold veils_read.l0
    repeat' first
    | (with_reducible exact ih0 _ _)
    | (with_reducible exact ih1 _ _ _)
    | (with_reducible exact ih2 _ _ _ _ _ _ _ _)
    | (with_reducible exact veils_alternates.mono _ _)
    | (with_reducible exact LeO.refl _)
    | (with_reducible exact LeO.none _)
    | (with_reducible refine LeO.ite ?_ ?_)
    | (with_reducible refine LeO.bind ?_ (fun _ => ?_))
    | exact ih0 _ _
    | exact ih1 _ _ _
    | exact ih2 _ _ _ _ _ _ _ _
    | exact veils_alternates.mono _ _
    | exact LeO.none _
    | refine LeO.ite ?_ ?_
    | refine LeO.bind ?_ (fun _ => ?_)
  · intro y0 y1 y2 y3 y4 y5 y6 y7
    unfold veils_read.l1
    repeat' first
    | (with_reducible exact ih0 _ _)
    | (with_reducible exact ih1 _ _ _)
    | (with_reducible exact ih2 _ _ _ _ _ _ _ _)
    | (with_reducible exact veils_alternates.mono _ _)
    | (with_reducible exact LeO.refl _)
    | (with_reducible exact LeO.none _)
    | (with_reducible refine LeO.ite ?_ ?_)
    | (with_reducible refine LeO.bind ?_ (fun _ => ?_))
    | exact ih0 _ _
    | exact ih1 _ _ _
    | exact ih2 _ _ _ _ _ _ _ _
    | exact veils_alternates.mono _ _
    | exact LeO.none _
    | refine LeO.ite ?_ ?_
    | refine LeO.bind ?_ (fun _ => ?_)
theorem veils_read.mono : ∀ a0 k, LeO (veils_read.f k a0) (veils_read.f (k + 1) a0) := by
 intro a0 k
 obtain ⟨ih0, ih1, ih2⟩ := veils_read.mono_l k
 unfold veils_read.f
 repeat' first
  | (with_reducible exact ih0 _ _)
  | (with_reducible exact ih1 _ _ _)
  | (with_reducible exact ih2 _ _ _ _ _ _ _ _)
  | (with_reducible exact veils_alternates.mono _ _)
  | (with_reducible exact LeO.refl _)
  | (with_reducible exact LeO.none _)
  | (with_reducible refine LeO.ite ?_ ?_)
  | (with_reducible refine LeO.bind ?_ (fun _ => ?_))
  | exact ih0 _ _
  | exact ih1 _ _ _
  | exact ih2 _ _ _ _ _ _ _ _
  | exact veils_alternates.mono _ _
  | exact LeO.none _
  | refine LeO.ite ?_ ?_
  | refine LeO.bind ?_ (fun _ => ?_)
set_option maxHeartbeats 8000000 in
set_option maxRecDepth 100000 in
theorem veils_read.calls (k : Nat) (P0_ : Nat → Prop) (A0 : Option Addr) (c0 : Nat) (l0 : List (List Int)) (r1 : List (List Int)) (r2 : Bool) (w : World) (hs0 : Kd.V (Kd.slice 3 (Kd.int .i64)) 28 w w.heap.size (fun k_ => P0_ k_) (.slice A0 l0.length c0) l0) (h : veils_read.f k l0 = some (r1, r2)) :
 Calls Try.prog 51 #[.slice A0 l0.length c0] w fun e w' => ∃ v0_ : Value, e = .returned (.tuple #[v0_, .bool r2]) ∧ Kd.V (Kd.slice 3 (Kd.int .i64)) 28 w' w.heap.size (fun k_ => (P0_ k_ ∨ w.heap.size ≤ k_)) v0_ r1 ∧ Below w.heap.size w w' := by
 have HO0 := Aside0.mk (show Kd.V (Kd.slice 3 (Kd.int .i64)) 28 w w.heap.size (fun k_ => (P0_ k_ ∨ w.heap.size ≤ k_)) (.slice A0 l0.length c0) l0 from Kd.V_mono hs0 (fun k_ hk => .inl hk))
 have HB := Aside0.mk (Below.refl w.heap.size w)
 have H : (if (l0.length : Int) < 1 then (veils_read.j0 k l0 true) else (if (l0.length : Int) > 5 then (veils_read.j0 k l0 true) else ((slices_ContainsFunc_int_int.f (veils_read1.f l0) 1000 l0).bind fun t101 => (veils_read.j0 k l0 t101)))) = some (r1, r2) := h
 clear h
 have HC2 := Aside0.mk H
 clear H
 have hmf : ∀ (fn : Fn) (first cap : Array Value) (w : World), (Instr.makeFunc fn first cap).run Try.prog w = .ok (.func fn first cap) w := fun _ _ _ _ => rfl
 have HX : Aside0 ((w.alloc (.cells #[.slice A0 l0.length c0] 27)).heap[w.heap.size]? = some (.cells #[.slice A0 l0.length c0] 27 (0, 0))) := ⟨blk_new _ _⟩
 have hcell : (w.alloc (.cells #[.slice A0 l0.length c0] 27)).cell? ⟨w.heap.size, 0, none⟩ = some (.slice A0 l0.length c0) := by
  rw [World.cell?_alloc_at _ _ _ _ rfl]; rfl
 go_enter Try.func51, Try.ntmps51
 go_upto_region 1 with (fail)
 go_cut [20] (fun v20 wc => ∃ (kq : Nat) (x20_1 : Bool), v20 = .bool x20_1 ∧ Aside0 (veils_read.j0 kq l0 x20_1 = some (r1, r2)) ∧ Aside0 (kq ≤ k) ∧ Aside0 (Kd.V (Kd.slice 3 (Kd.int .i64)) 28 wc w.heap.size (fun k_ => (P0_ k_ ∨ w.heap.size ≤ k_)) (.slice A0 l0.length c0) l0) ∧ Aside0 (Below w.heap.size w wc) ∧ Aside0 (wc.heap[w.heap.size]? = some (.cells #[.slice A0 l0.length c0] 27 (0, 0))))
 case first =>
  have H := HC2.out
  clear HC2
  by_cases c3 : (l0.length : Int) < 1
  · rw [if_pos c3] at H
    have c3b0 : decide ((l0.length : Int) < 1) = true := decide_eq_true c3
    have c3b1 : decide (l0.length < 1) = true := decide_eq_true (by omega)
    clear c3
    (first | rw [c3b0] | (simp only [i64_w, i32_w]; rw [c3b0]) | skip)
    have H' := Aside0.mk H
    clear H
    go_wp2
    go_meet
    case rel => exact ⟨_, (true), rf_, H', ⟨by first | omega | exact Nat.le_refl _⟩, ⟨nV_ HO0.out⟩, ⟨bel_⟩, ⟨by (with_reducible repeat (first | exact HX.out | refine blk_drewN ?_ _ | refine blk_drew ?_ | refine blk_alloc ?_ _))⟩⟩
  · rw [if_neg c3] at H
    have c3b0 : decide ((l0.length : Int) < 1) = false := decide_eq_false c3
    have c3b1 : decide (l0.length < 1) = false := decide_eq_false (by omega)
    clear c3
    (first | rw [c3b0] | (simp only [i64_w, i32_w]; rw [c3b0]) | skip)
    by_cases c4 : (l0.length : Int) > 5
    · rw [if_pos c4] at H
      have c4b0 : decide (5 < (l0.length : Int)) = true := decide_eq_true c4
      have c4b1 : decide (5 < l0.length) = true := decide_eq_true (by omega)
      clear c4
      have H' := Aside0.mk H
      clear H
      go_wp2
      go_meet
      case rel => exact ⟨_, (true), rf_, H', ⟨by first | omega | exact Nat.le_refl _⟩, ⟨nV_ HO0.out⟩, ⟨bel_⟩, ⟨by (with_reducible repeat (first | exact HX.out | refine blk_drewN ?_ _ | refine blk_drew ?_ | refine blk_alloc ?_ _))⟩⟩
    · rw [if_neg c4] at H
      have c4b0 : decide (5 < (l0.length : Int)) = false := decide_eq_false c4
      have c4b1 : decide (5 < l0.length) = false := decide_eq_false (by omega)
      clear c4
      replace H := Option.bind_eq_some_iff.mp H
      obtain ⟨t101, A50, H⟩ := H
      replace H : (veils_read.j0 k l0 t101) = some (r1, r2) := H
      have A5 := Aside0.mk A50
      clear A50
      have H' := Aside0.mk H
      clear H
      go_wp2_with (first | (go_at_call 68; (refine (slices_ContainsFunc_int_int.calls (veils_read1.f l0) Try.func69 (by kernel_rfl) rfl #[.pointer (some ⟨w.heap.size, 0, none⟩)] 1000 _ _ l0 t101 _ ?hg ?side1 ?side2 A5.out).mono ?_); (case hg => exact ⟨fun A c row x W hd hr hc hx => by obtain ⟨n, rfl⟩ := hd.out; exact veils_read1.calls l0 A0 c0 w.heap.size A c row x _ ⟨blk_drewN HX.out n⟩ ⟨hr⟩ ⟨hc⟩ hx⟩); (case side1 => repeat (first | exact (Kd.V_reads' HO0.out).2.2 | (with_reducible refine Kd.C_alloc ?_ _) | (with_reducible refine Kd.C_drewN ?_ _) | (with_reducible refine Kd.C_drew ?_))); (case side2 => exact (Kd.V_reads' HO0.out).2.1); rintro e w' ⟨rfl, ⟨nd, rfl⟩⟩))
      go_meet
      case rel => exact ⟨_, (t101), rf_, H', ⟨by first | omega | exact Nat.le_refl _⟩, ⟨nV_ HO0.out⟩, ⟨bel_⟩, ⟨by (with_reducible repeat (first | exact HX.out | refine blk_drewN ?_ _ | refine blk_drew ?_ | refine blk_alloc ?_ _))⟩⟩
 case rest =>
  clear HC2
  try clear p2
  try clear c3
  try clear c3b0
  try clear c3b1
  try clear c4
  try clear c4b0
  try clear c4b1
  try clear c5
  obtain ⟨kq, x20_1, rfl, HA, HJ1, HO_1, HB, HX⟩ := hcut
  clear hcell
  have hcell := (blk_cell HX.out 0).trans (rfl : _ = some (Value.slice A0 l0.length c0))
  cases kq with
  | zero => exact absurd HA.out (by simp [veils_read.j0])
  | succ kj1 =>
   have H := HA.out
   clear HA
   simp only [veils_read.j0] at H
   by_cases c6 : x20_1 = true
   · subst c6
     have H1 : (some (([] : List (List Int)), false)) = some (r1, r2) := by rw [if_pos rfl] at H; exact H
     clear H
     have H := H1
     clear H1
     simp only [Option.some.injEq, Prod.mk.injEq] at H
     obtain ⟨rfl, rfl⟩ := H
     go_wp2
     go_ret2
     exact ⟨.slice none 0 0, er_, Kd.V_mono (Kd.S_V (by first | exact Kd.S_nil (Kd.slice 3 (Kd.int .i64)) 28 _ w.heap.size (fun k_ => w.heap.size ≤ k_) | exact Kd.N_nil _ _ _ _ _ | exact Kd.V_nil _ _ _ _ _ | exact Kd.Q_nil _ _ _ _ _ | exact Kd.R_nil _ _ _ _ _)) (fun k_ hk => by first | exact ⟨(.inr (hk.1)), hk.2⟩ | exact (.inr (hk))), bel_⟩
   · replace c6 := Bool.eq_false_iff.mpr c6
     subst c6
     have H1 : (veils_read.l0 kj1 l0 (l0.length : Int) 0) = some (r1, r2) := by rw [if_neg (show ¬ (false = true) by decide)] at H; exact H
     clear H
     have H := H1
     clear H1
     have H' := Aside0.mk H
     clear H
     go_wp2
     go_loopg [23] kj1 (fun kq v23 w' => ∃ (x23_2 : Int), v23 = .int .i64 x23_2 ∧ Aside0 (veils_read.l0 kq l0 (l0.length : Int) x23_2 = some (r1, r2)) ∧ Aside0 (kq ≤ kj1) ∧ Aside0 (Kd.V (Kd.slice 3 (Kd.int .i64)) 28 w' w.heap.size (fun k_ => (P0_ k_ ∨ w.heap.size ≤ k_)) (.slice A0 l0.length c0) l0) ∧ Aside0 (Below w.heap.size w w') ∧ Aside0 (w'.heap[w.heap.size]? = some (.cells #[.slice A0 l0.length c0] 27 (0, 0))))
     case atStart => exact ⟨(0), rf_, H', ⟨Nat.le_refl _⟩, ⟨nV_ HO_1.out⟩, ⟨bel_⟩, ⟨by (with_reducible repeat (first | exact HX.out | refine blk_drewN ?_ _ | refine blk_drew ?_ | refine blk_alloc ?_ _))⟩⟩
     case round =>
      clear H'
      try clear p2
      try clear c3
      try clear c3b0
      try clear c3b1
      try clear c4
      try clear c4b0
      try clear c4b1
      try clear c5
      try clear c6
      try clear p2
      obtain ⟨x23_2, rfl, HA, HK2, HO_1, HB, HX⟩ := hrel
      clear hcell
      have hcell := (blk_cell HX.out 0).trans (rfl : _ = some (Value.slice A0 l0.length c0))
      cases gk with
      | zero => exact absurd HA.out (by simp [veils_read.l0])
      | succ k2 =>
       have H := HA.out
       clear HA
       simp only [veils_read.l0] at H
       by_cases c7 : x23_2 < (l0.length : Int)
       · rw [if_pos c7] at H
         have c7b0 : decide (x23_2 < (l0.length : Int)) = true := decide_eq_true c7
         clear c7
         have H' := Aside0.mk H
         clear H
         go_wp2
         go_loopg [5, 28] k2 (fun kq v5 v28 w' => ∃ (x5_3 : List Int) (x28_3 : Int), v28 = .int .i64 x28_3 ∧ Aside0 (veils_read.l1 kq l0 x23_2 x5_3 (l0.length : Int) x23_2 l0 (l0.length : Int) x28_3 = some (r1, r2)) ∧ Aside0 (kq ≤ k2) ∧ Aside0 (Kd.V (Kd.slice 3 (Kd.int .i64)) 28 w' w.heap.size (fun k_ => (P0_ k_ ∨ w.heap.size ≤ k_) ∧ some k_ ≠ (v5 : Value).ownBlock) (.slice A0 l0.length c0) l0) ∧ Aside0 (Kd.R (Kd.int .i64) 3 w' w.heap.size (fun k_ => (w.heap.size ≤ k_)) v5 x5_3) ∧ Aside0 (Kd.V (Kd.slice 3 (Kd.int .i64)) 28 w' w.heap.size (fun k_ => (P0_ k_ ∨ w.heap.size ≤ k_) ∧ some k_ ≠ (v5 : Value).ownBlock) (.slice A0 l0.length c0) l0) ∧ Aside0 (Below w.heap.size w w') ∧ Aside0 (w'.heap[w.heap.size]? = some (.cells #[.slice A0 l0.length c0] 27 (0, 0))))
         case atStart => exact ⟨(([] : List Int)), (0), rf_, H', ⟨Nat.le_refl _⟩, ⟨by (with_reducible repeat (first | apply Kd.V_alloc | apply Kd.V_drewN | apply Kd.V_drew)); exact Kd.V_mono HO_1.out (fun _ hk => ⟨hk, (by simp [Value.ownBlock])⟩)⟩, ⟨by first | exact Kd.R_nil _ _ _ _ _ | exact Kd.N_nil _ _ _ _ _ | exact Kd.V_nil _ _ _ _ _ | exact Kd.Q_nil _ _ _ _ _ | exact Kd.S_nil _ _ _ _ _⟩, ⟨by (with_reducible repeat (first | apply Kd.V_alloc | apply Kd.V_drewN | apply Kd.V_drew)); exact Kd.V_mono HO_1.out (fun _ hk => ⟨hk, (by simp [Value.ownBlock])⟩)⟩, ⟨bel_⟩, ⟨by (with_reducible repeat (first | exact HX.out | refine blk_drewN ?_ _ | refine blk_drew ?_ | refine blk_alloc ?_ _))⟩⟩
         case round =>
          clear H'
          try clear p2
          try clear c3
          try clear c3b0
          try clear c3b1
          try clear c4
          try clear c4b0
          try clear c4b1
          try clear c5
          try clear c6
          try clear c7
          try clear c7b0
          try clear p2
          obtain ⟨x5_3, x28_3, rfl, HA, HK3, HO_1, HO_5, HO_26, HB, HX⟩ := hrel
          clear hcell
          have hcell := (blk_cell HX.out 0).trans (rfl : _ = some (Value.slice A0 l0.length c0))
          cases gk with
          | zero => exact absurd HA.out (by simp [veils_read.l1])
          | succ k3 =>
           have H := HA.out
           clear HA
           simp only [veils_read.l1] at H
           by_cases c8 : x28_3 < (l0.length : Int)
           · rw [if_pos c8] at H
             have c8b0 : decide (x28_3 < (l0.length : Int)) = true := decide_eq_true c8
             clear c8
             by_cases c9 : 0 ≤ x28_3
             · rw [if_pos c9] at H
               have c9b0 : decide (0 ≤ x28_3) = true := decide_eq_true c9
               clear c9
               by_cases c10 : x28_3 < (l0.length : Int)
               · rw [if_pos c10] at H
                 have c10b0 : decide (x28_3 < (l0.length : Int)) = true := decide_eq_true c10
                 clear c10
                 by_cases c11 : 0 ≤ x23_2
                 · rw [if_pos c11] at H
                   have c11b0 : decide (0 ≤ x23_2) = true := decide_eq_true c11
                   clear c11
                   by_cases c12 : x23_2 < ((rd_L1 l0 x28_3).length : Int)
                   · rw [if_pos c12] at H
                     have c12b0 : decide (x23_2 < ((rd_L1 l0 x28_3).length : Int)) = true := decide_eq_true c12
                     clear c12
                     by_cases c13 : x5_3.length < 17592186044416
                     · rw [if_pos c13] at H
                       have LMc13 := Aside0.mk c13
                       clear c13
                       obtain ⟨y104, hy104⟩ : ∃ y_ : List Int, y_ = (x5_3 ++ [rd (rd_L1 l0 x28_3) x23_2]) := ⟨_, rfl⟩
                       replace H : (veils_read.l1 k3 l0 x23_2 y104 (l0.length : Int) x23_2 l0 (l0.length : Int) (wrap64 (x28_3 + 1))) = some (r1, r2) := by first | (rw [hy104]; with_reducible exact H) | (have H2_ := (Option.bind_some _ _).symm.trans H; rw [hy104]; with_reducible exact H2_) | (have H2_ := (Option.bind_some _ _).symm.trans H; with_reducible exact H2_) | with_reducible exact H | (rw [hy104]; exact H) | exact H
                       have Ny104 := Aside0.mk hy104
                       clear hy104
                       have H' := Aside0.mk H
                       clear H
                       have p102 : 0 ≤ (x28_3 : Int) := od_
                       have q102 : x28_3 < (l0.length : Int) := od_
                       obtain ⟨ad102, A102_0, c102_0, e102, hx102_0, hl102_0, hi102_0⟩ := at_L1 (Kd.V_reads' HO_26.out).2.2 x28_3 p102 q102
                       cases e102
                       obtain ⟨ce102, hce102, hMe102, hcc102⟩ := Kd.V_get HO_26.out [] x28_3 p102 (by first | exact q102 | exact od_ | (have e_ := (Kd.V_reads' HO_26.out).1; omega))
                       obtain ⟨ua102_0, uc102_0, rfl, ul102_0, ge102_0⟩ := Kd.FK_slice_open hMe102
                       have hv102_0 := hcc102 0 _ rfl
                       rw [Nat.add_zero, show ((Kd.slice 3 (Kd.int .i64))).sz = 1 from rfl, Nat.mul_one] at hv102_0
                       replace hv102_0 := Option.some.inj (hv102_0.symm.trans hx102_0)
                       injection hv102_0 with hva_ hvn_ hvc_
                       rw [hva_] at ge102_0
                       rw [hvc_] at ul102_0
                       have HL102_0 := Aside0.mk (show Kd.V (Kd.int .i64) 3 _ w.heap.size _ _ (rd_L1 l0 x28_3) from Kd.V_mk ul102_0 ge102_0)
                       clear hva_ hvn_ hvc_ ge102_0 ul102_0
                       clear hcc102 hce102
                       have HR102_0 := Aside0.mk hi102_0
                       have HC102_0 := Aside0.mk hl102_0
                       clear hi102_0 hl102_0
                       replace p102 := eq_true p102
                       replace q102 := eq_true q102
                       obtain ⟨ad103, e103, hx103_0, p103, q103⟩ := ai_ (by repeat (first | (with_reducible exact HR102_0.out) | (with_reducible refine Kd.C_alloc ?_ _) | (with_reducible refine Kd.C_drewN ?_ _) | (with_reducible refine Kd.C_drew ?_) | exact HR102_0.out)) x23_2
                       cases e103
                       go_wp2_with (first | ((with_reducible refine gate_builtin (b := .append) (xs := #[.tmp 32, .tmp 37]) rfl ?_); (try (refine gate_guard (by rfl) ?_; dsimp only)); at_builtin; refine Kd.R_append (Kd.int .i64) (w0 := w) w.heap.size rfl (.tmp 32) (.tmp 37) 28 3 (.int .i64 0) 8 rfl Try.underlying28 info3 rfl (by decide) (by omega) u5 x5_3 (rd (rd_L1 l0 x28_3) x23_2) [.int .i64 (rd (rd_L1 l0 x28_3) x23_2)] (fun k_ => (w.heap.size ≤ k_)) (fun _ => False) rfl rfl ?aP (fun _ hk => hk.elim) ?aF ?aO ?aB ?aS ?aL ?_; (case aP => exact rfl); (case aB => exact (bel_)); (case aF => exact (fun k_ hk => (Nat.le_trans (below_size (bel_)) hk))); (case aO => exact (nR_ HO_5.out)); (case aS => exact (below_size (bel_))); (case aL => have := LMc13.out; omega); intro v105 w14 ho hb hg hat; rw [← Ny104.out] at ho; have nX_ := Aside0.mk (blk_grown (show _ from HX.out) hg (Kd.R_ne HO_5.out HX.out (by decide))); clear hcell; clear HX; have HX := nX_; clear nX_; have n0_ := Aside0.mk (Kd.V_afterv (ok := (fun k_ => (P0_ k_ ∨ w.heap.size ≤ k_))) (nV_ HO_1.out) hg hat); have n1_ := Aside0.mk (Kd.V_afterv (ok := (fun k_ => (P0_ k_ ∨ w.heap.size ≤ k_))) (nV_ HO_26.out) hg hat); have n2_ := Aside0.mk (Kd.V_afterv (ok := (fun k_ => (P0_ k_ ∨ w.heap.size ≤ k_))) (nV_ HL102_0.out) hg hat); have n3_ := Aside0.mk (hb); have n4_ := Aside0.mk (ho); clear HO_1; clear HO_26; clear HL102_0; clear HB; clear HO_5; have HO_1 := n0_; have HO_26 := n1_; have HL102_0 := n2_; have HB := n3_; have HO106 := n4_; clear n0_ n1_ n2_ n3_ n4_; clear ho hb hg hat))
                       go_roundg k3
                       case measure => have := HJ1.out; have := HK2.out; have := HK3.out; omega
                       case rel => exact ⟨(y104), (wrap64 (x28_3 + 1)), rf_, H', ⟨by have := HJ1.out; have := HK2.out; have := HK3.out; omega⟩, ⟨nV_ HO_1.out⟩, ⟨nR_ HO106.out⟩, ⟨nV_ HO_26.out⟩, ⟨bel_⟩, ⟨by (with_reducible repeat (first | exact HX.out | refine blk_drewN ?_ _ | refine blk_drew ?_ | refine blk_alloc ?_ _))⟩⟩
                     · rw [if_neg c13] at H
                       exact absurd H (by simp)
                   · rw [if_neg c12] at H
                     exact absurd H (by simp)
                 · rw [if_neg c11] at H
                   exact absurd H (by simp)
               · rw [if_neg c10] at H
                 exact absurd H (by simp)
             · rw [if_neg c9] at H
               exact absurd H (by simp)
           · rw [if_neg c8] at H
             have c8b0 : decide (x28_3 < (l0.length : Int)) = false := decide_eq_false c8
             clear c8
             replace H := Option.bind_eq_some_iff.mp H
             obtain ⟨t107, A150, H⟩ := H
             replace H : (if t107 = true then (veils_read.l0 k3 l0 (l0.length : Int) (wrap64 (x23_2 + 1))) else (some (([] : List (List Int)), false))) = some (r1, r2) := H
             have A15 := Aside0.mk A150
             clear A150
             by_cases c16 : t107 = true
             · subst c16
               have H1 : (veils_read.l0 k3 l0 (l0.length : Int) (wrap64 (x23_2 + 1))) = some (r1, r2) := by rw [if_pos rfl] at H; exact H
               clear H
               have H := H1
               clear H1
               have H' := Aside0.mk H
               clear H
               obtain ⟨Ao17, co17, eo17⟩ := Kd.R_slice HO_5.out
               subst eo17
               go_wp2_with (first | ((with_reducible refine gate_callee (f := 70) rfl ?_); refine goesL_ (some 41) rfl rfl Try.func70 (by kernel_rfl) rfl #[.slice Ao17 x5_3.length co17] rfl ar_ ?_; (with_reducible refine (veils_alternates.calls k3 _ _ x5_3 true _ ?side1 ?side2 A15.out).mono ?_); (case side1 => repeat (first | exact (Kd.R_reads' HO_5.out).2.2 | (with_reducible refine Kd.C_alloc ?_ _) | (with_reducible refine Kd.C_drewN ?_ _) | (with_reducible refine Kd.C_drew ?_))); (case side2 => exact (Kd.R_reads' HO_5.out).2.1); rintro e w' ⟨rfl, ⟨nd, rfl⟩⟩; refine ⟨_, rfl, ?_⟩))
               go_roundg k3
               case measure => have := HJ1.out; have := HK2.out; have := HK3.out; omega
               case rel => exact ⟨(wrap64 (x23_2 + 1)), rf_, H', ⟨by have := HJ1.out; have := HK2.out; have := HK3.out; omega⟩, ⟨by (with_reducible repeat (first | apply Kd.V_alloc | apply Kd.V_drewN | apply Kd.V_drew)); exact Kd.V_mono HO_1.out (fun _ hk => hk.1)⟩, ⟨bel_⟩, ⟨by (with_reducible repeat (first | exact HX.out | refine blk_drewN ?_ _ | refine blk_drew ?_ | refine blk_alloc ?_ _))⟩⟩
             · replace c16 := Bool.eq_false_iff.mpr c16
               subst c16
               have H1 : (some (([] : List (List Int)), false)) = some (r1, r2) := by rw [if_neg (show ¬ (false = true) by decide)] at H; exact H
               clear H
               have H := H1
               clear H1
               simp only [Option.some.injEq, Prod.mk.injEq] at H
               obtain ⟨rfl, rfl⟩ := H
               obtain ⟨Ao18, co18, eo18⟩ := Kd.R_slice HO_5.out
               subst eo18
               go_wp2_with (first | ((with_reducible refine gate_callee (f := 70) rfl ?_); refine goesL_ (some 41) rfl rfl Try.func70 (by kernel_rfl) rfl #[.slice Ao18 x5_3.length co18] rfl ar_ ?_; (with_reducible refine (veils_alternates.calls k3 _ _ x5_3 false _ ?side1 ?side2 A15.out).mono ?_); (case side1 => repeat (first | exact (Kd.R_reads' HO_5.out).2.2 | (with_reducible refine Kd.C_alloc ?_ _) | (with_reducible refine Kd.C_drewN ?_ _) | (with_reducible refine Kd.C_drew ?_))); (case side2 => exact (Kd.R_reads' HO_5.out).2.1); rintro e w' ⟨rfl, ⟨nd, rfl⟩⟩; refine ⟨_, rfl, ?_⟩))
               go_ret2
               exact ⟨.slice none 0 0, er_, Kd.V_mono (Kd.S_V (by first | exact Kd.S_nil (Kd.slice 3 (Kd.int .i64)) 28 _ w.heap.size (fun k_ => w.heap.size ≤ k_) | exact Kd.N_nil _ _ _ _ _ | exact Kd.V_nil _ _ _ _ _ | exact Kd.Q_nil _ _ _ _ _ | exact Kd.R_nil _ _ _ _ _)) (fun k_ hk => by first | exact ⟨(.inr (hk.1)), hk.2⟩ | exact (.inr (hk))), bel_⟩
       · rw [if_neg c7] at H
         have c7b0 : decide (x23_2 < (l0.length : Int)) = false := decide_eq_false c7
         clear c7
         simp only [Option.some.injEq, Prod.mk.injEq] at H
         obtain ⟨rfl, rfl⟩ := H
         go_wp2
         go_ret2
         exact ⟨_, er_, by (with_reducible repeat (first | apply Kd.V_alloc | apply Kd.V_drewN | apply Kd.V_drew)); exact HO_1.out, bel_⟩

end Go.Proofs.Ytdinepghommchaa.V

-- Written by a program of this session over the kit's printer: wip/gp.py.
namespace Go.Proofs.Ytdinepghommchaa.V
open Go.RowKit Go.Proofs.YtdinepghommchaaW.PrintWords Go.Proofs.YtdinepghommchaaW.PrintLast Go.Proofs.YtdinepghommchaaW.PrintMore
attribute [local go_sem] max2_int min2_int max_two min_two max_three min_three max_four min_four   -- for this text's walks alone
set_option linter.unusedVariables false
set_option linter.unusedSimpArgs false

/-! ### veils_heights_sum: function 99 -/
def veils_heights_sum.f (l0 : List (List Int)) (a1 : Int) (a2 : Int) : Option (Int) := if 0 ≤ a1 then (if a1 < (l0.length : Int) then (if 0 ≤ a2 then (if a2 < ((rd_L1 l0 a1).length : Int) then (some (wrap64 (Int.tdiv (wrap64 ((wrap64 (a1 + a2)) - (rd (rd_L1 l0 a1) a2))) 2))) else (none)) else (none)) else (none)) else (none)
set_option maxHeartbeats 8000000 in
set_option maxRecDepth 100000 in
theorem veils_heights_sum.calls (A0 : Option Addr) (c0 : Nat) (l0 : List (List Int)) (a1 : Int) (a2 : Int) (r : Int) (w : World) (hr0 : Kd.C (Kd.slice 3 (Kd.int .i64)) w A0 l0.length l0) (hc0 : l0.length ≤ c0) (h : veils_heights_sum.f l0 a1 a2 = some r) :
 Calls Try.prog 99 #[.slice A0 l0.length c0, .int .i64 a1, .int .i64 a2] w fun e w' => e = .returned (.int .i64 r) ∧ Drawn0 w w' := by
 have HR0 := Aside0.mk hr0
 have HC0 := Aside0.mk hc0
 clear hr0 hc0
 have H : (if 0 ≤ a1 then (if a1 < (l0.length : Int) then (if 0 ≤ a2 then (if a2 < ((rd_L1 l0 a1).length : Int) then (some (wrap64 (Int.tdiv (wrap64 ((wrap64 (a1 + a2)) - (rd (rd_L1 l0 a1) a2))) 2))) else (none)) else (none)) else (none)) else (none)) = some r := h
 clear h
 by_cases c4 : 0 ≤ a1
 · rw [if_pos c4] at H
   have c4b0 : decide (0 ≤ a1) = true := decide_eq_true c4
   clear c4
   by_cases c5 : a1 < (l0.length : Int)
   · rw [if_pos c5] at H
     have c5b0 : decide (a1 < (l0.length : Int)) = true := decide_eq_true c5
     clear c5
     by_cases c6 : 0 ≤ a2
     · rw [if_pos c6] at H
       have c6b0 : decide (0 ≤ a2) = true := decide_eq_true c6
       clear c6
       by_cases c7 : a2 < ((rd_L1 l0 a1).length : Int)
       · rw [if_pos c7] at H
         have c7b0 : decide (a2 < ((rd_L1 l0 a1).length : Int)) = true := decide_eq_true c7
         clear c7
         obtain rfl := Option.some.inj H
         obtain ⟨ad699, A699_0, c699_0, e699, hx699_0, HC699_0, HR699_0, p699, q699⟩ := al_ HR0.out a1
         cases e699
         obtain ⟨ad700, e700, hx700_0, p700, q700⟩ := ai_ HR699_0.out a2
         cases e700
         go_enter Try.func99, Try.ntmps99
         go_wp2
         go_ret
         exact ⟨rf_, dr_⟩
       · rw [if_neg c7] at H
         exact absurd H (by simp)
     · rw [if_neg c6] at H
       exact absurd H (by simp)
   · rw [if_neg c5] at H
     exact absurd H (by simp)
 · rw [if_neg c4] at H
   exact absurd H (by simp)

end Go.Proofs.Ytdinepghommchaa.V

-- Written by a program of this session over the kit's printer: wip/gp.py.
namespace Go.Proofs.Ytdinepghommchaa.V
open Go.RowKit Go.Proofs.YtdinepghommchaaW.PrintWords Go.Proofs.YtdinepghommchaaW.PrintLast Go.Proofs.YtdinepghommchaaW.PrintMore
attribute [local go_sem] max2_int min2_int max_two min_two max_three min_three max_four min_four   -- for this text's walks alone
set_option linter.unusedVariables false
set_option linter.unusedSimpArgs false

/-! ### veils_triangle_sum: function 101 -/
def veils_triangle_sum.l0 : Nat → Int → Int → List Int → Int → Int → Option (Int)
 | 0, _, _, _, _, _ => none
 | k + 1, x2, x7, x16, x17, x18 => if x18 < x17 then (if 0 ≤ x18 then (if x18 < (x16.length : Int) then (if (rd x16 x18) ≤ x2 then (veils_triangle_sum.l0 k x2 (wrap64 (x7 + 1)) x16 x17 (wrap64 (x18 + 1))) else (veils_triangle_sum.l0 k x2 x7 x16 x17 (wrap64 (x18 + 1)))) else (none)) else (none)) else (some x7)
def veils_triangle_sum.f (k : Nat) (l0 : List (List Int)) (a1 : Int) (a2 : Int) : Option (Int) := if a1 = 0 then (some 0) else (if 0 ≤ (wrap64 (a1 - 1)) then (if (wrap64 (a1 - 1)) < (l0.length : Int) then (veils_triangle_sum.l0 k a2 0 (rd_L1 l0 (wrap64 (a1 - 1))) ((rd_L1 l0 (wrap64 (a1 - 1))).length : Int) 0) else (none)) else (none))
end Go.Proofs.Ytdinepghommchaa.V

-- Written by a program of this session over the kit's printer: wip/gp.py.
namespace Go.Proofs.Ytdinepghommchaa.V
open Go.RowKit Go.Proofs.YtdinepghommchaaW.PrintWords Go.Proofs.YtdinepghommchaaW.PrintLast Go.Proofs.YtdinepghommchaaW.PrintMore
attribute [local go_sem] max2_int min2_int max_two min_two max_three min_three max_four min_four   -- for this text's walks alone
set_option linter.unusedVariables false
set_option linter.unusedSimpArgs false

/-! ### veils_heights_size: function 74 -/
def veils_heights_size.f (l0 : List (List Int)) : Option (Int) := some (wrap64 ((l0.length : Int) - 1))
set_option maxHeartbeats 8000000 in
set_option maxRecDepth 100000 in
theorem veils_heights_size.calls (A0 : Option Addr) (c0 : Nat) (l0 : List (List Int)) (r : Int) (w : World) (hr0 : Kd.C (Kd.slice 3 (Kd.int .i64)) w A0 l0.length l0) (hc0 : l0.length ≤ c0) (h : veils_heights_size.f l0 = some r) :
 Calls Try.prog 74 #[.slice A0 l0.length c0] w fun e w' => e = .returned (.int .i64 r) ∧ Drawn0 w w' := by
 have HR0 := Aside0.mk hr0
 have HC0 := Aside0.mk hc0
 clear hr0 hc0
 have H : (some (wrap64 ((l0.length : Int) - 1))) = some r := h
 clear h
 obtain rfl := Option.some.inj H
 go_enter Try.func74, Try.ntmps74
 go_wp2
 go_ret
 exact ⟨rf_, dr_⟩

end Go.Proofs.Ytdinepghommchaa.V

-- Written by a program of this session over the kit's printer: wip/gp.py.
namespace Go.Proofs.Ytdinepghommchaa.V
open Go.RowKit Go.Proofs.YtdinepghommchaaW.PrintWords Go.Proofs.YtdinepghommchaaW.PrintLast Go.Proofs.YtdinepghommchaaW.PrintMore
attribute [local go_sem] max2_int min2_int max_two min_two max_three min_three max_four min_four   -- for this text's walks alone
set_option linter.unusedVariables false
set_option linter.unusedSimpArgs false

/-! ### veils_triangle_size: function 100 -/
def veils_triangle_size.f (l0 : List (List Int)) : Option (Int) := some (l0.length : Int)
end Go.Proofs.Ytdinepghommchaa.V

/- The walks of 'of' and of its closure, over heights and over triangles. -/
namespace Go.Proofs.Ytdinepghommchaa.V
open Go.RowKit Go.Proofs.YtdinepghommchaaW.PrintWords Go.Proofs.YtdinepghommchaaW.PrintLast Go.Proofs.YtdinepghommchaaW.PrintMore
set_option linter.unusedVariables false
set_option linter.unusedSimpArgs false


def veils_of1_heights.f (l : List (List Int)) (i j : Int) : Option Int :=
 (veils_heights_sum.f l (wrap64 (i + 1)) (wrap64 (j + 1))).bind fun a => (veils_heights_sum.f l i (wrap64 (j + 1))).bind fun b => (veils_heights_sum.f l (wrap64 (i + 1)) j).bind fun c => (veils_heights_sum.f l i j).bind fun d =>
  some (wrap64 (wrap64 (wrap64 (a - b) - c) + d))

set_option maxHeartbeats 4000000 in
set_option maxRecDepth 100000 in
theorem veils_of1_heights.calls (l : List (List Int)) (A : Option Addr) (cp bx : Nat) (i j x : Int) (w : World) (hb : Aside0 (w.heap[bx]? = some (.cells #[.iface 54 (.slice A l.length cp)] 68 (0, 0))))
 (hr : Aside0 (Kd.C (Kd.slice 3 (Kd.int .i64)) w A l.length l)) (hc : Aside0 (l.length ≤ cp)) (h : veils_of1_heights.f l i j = some x) :
 Calls Try.prog 73 #[.int .i64 i, .int .i64 j, .pointer (some ⟨bx, 0, none⟩)] w fun e w' => e = .returned (.int .i64 x) ∧ Below w.heap.size w w' := by
 unfold veils_of1_heights.f at h
 obtain ⟨a, ha, h⟩ := Option.bind_eq_some_iff.mp h
 obtain ⟨b, hb', h⟩ := Option.bind_eq_some_iff.mp h
 obtain ⟨c, hc', h⟩ := Option.bind_eq_some_iff.mp h
 obtain ⟨d, hd, h⟩ := Option.bind_eq_some_iff.mp h
 have S1 := Aside0.mk ha
 have S2 := Aside0.mk hb'
 have S3 := Aside0.mk hc'
 have S4 := Aside0.mk hd
 obtain rfl := Option.some.inj h
 clear h ha hb' hc' hd
 have hcell : w.cell? ⟨bx, 0, none⟩ = some (.iface 54 (.slice A l.length cp)) := (blk_cell hb.out 0).trans rfl
 have hm := H.m_heights_sum A l.length cp
 have iw := i64_w
 go_enter Try.func73, Try.ntmps73
 go_wp2_with fail
 go_quiet (first | (go_at_call 99; (first | (with_reducible refine (veils_heights_sum.calls A cp l _ _ _ _ ?s1 hc.out S1.out).mono ?_) | (with_reducible refine (veils_heights_sum.calls A cp l _ _ _ _ ?s1 hc.out S2.out).mono ?_) | (with_reducible refine (veils_heights_sum.calls A cp l _ _ _ _ ?s1 hc.out S3.out).mono ?_) | (with_reducible refine (veils_heights_sum.calls A cp l _ _ _ _ ?s1 hc.out S4.out).mono ?_)); (case s1 => repeat (first | exact hr.out | (with_reducible refine Kd.C_drewN ?_ _) | (with_reducible refine Kd.C_drew ?_))); rintro e w' ⟨rfl, ⟨nd, rfl⟩⟩; first | exact ⟨rfl, _, World.drewN_drewN _ _ _⟩ | exact ⟨rfl, _, Eq.trans (World.drewN_drewN _ _ _) (congrArg (World.drewN _) (Nat.add_assoc _ _ _))⟩ | exact ⟨rfl, nd, rfl⟩))
 go_wp2
 go_ret
 exact ⟨rfl, by repeat (first | exact Below.refl _ _ | apply pw_below_drewN | apply below_drew1)⟩

def veils_of_heights.f (l : List (List Int)) : Option (List (List Int)) := (veils_heights_size.f l).bind fun n => veils_made_int.f (veils_of1_heights.f l) 1000 n

set_option maxHeartbeats 400000 in
set_option maxRecDepth 100000 in
theorem veils_of_heights.calls (A0 : Option Addr) (c0 : Nat) (l0 : List (List Int)) (r : List (List Int)) (w : World) (hr0 : Kd.C (Kd.slice 3 (Kd.int .i64)) w A0 l0.length l0) (hc0 : l0.length ≤ c0) (h : veils_of_heights.f l0 = some r) :
 Calls Try.prog 53 #[.iface 54 (.slice A0 l0.length c0)] w fun e w' => ∃ v0_ : Value, e = .returned (v0_) ∧ Kd.S (Kd.slice 3 (Kd.int .i64)) 28 w' w.heap.size (fun _ => True) v0_ r ∧ Below w.heap.size w w' := by
 unfold veils_of_heights.f at h
 obtain ⟨n, hn, h⟩ := Option.bind_eq_some_iff.mp h
 have HR := Aside0.mk hr0
 have HC := Aside0.mk hc0
 have HN := Aside0.mk hn
 have HH := Aside0.mk h
 clear hr0 hc0 h hn
 have hm := H.m_heights_size A0 l0.length c0
 have hmf : ∀ (fn : Fn) (first cap : Array Value) (w : World), (Instr.makeFunc fn first cap).run Try.prog w = .ok (.func fn first cap) w := fun _ _ _ _ => rfl
 have hcell : (w.alloc (.cells #[.iface 54 (.slice A0 l0.length c0)] 68)).cell? ⟨w.heap.size, 0, none⟩ = some (.iface 54 (.slice A0 l0.length c0)) := by
  rw [World.cell?_alloc_at _ _ _ _ rfl]; rfl
 go_enter Try.func53, Try.ntmps53
 go_wp2_with (first | (go_at_call 74; refine (veils_heights_size.calls A0 c0 l0 _ _ ?s1 HC.out HN.out).mono ?_; (case s1 => exact Kd.C_below HR.out (below_alloc (Below.refl _ _) _)); rintro e w' ⟨rfl, ⟨nd, rfl⟩⟩) | (go_at_call 59; refine (veils_made_int.calls (veils_of1_heights.f l0) Try.func73 (by kernel_rfl) rfl #[.pointer (some ⟨w.heap.size, 0, none⟩)] 1000 n r _ ?g1 HH.out).mono ?_; rotate_left; (rintro e w' ⟨v0, rfl, ho, hb⟩)))
 · go_ret
   exact ⟨v0, rfl, Kd.S_lower ho (below_size (pw_below_drewN (below_alloc (Below.refl _ _) _) _)), below_step (pw_below_drewN (below_alloc (Below.refl _ _) _) _) hb⟩
 case g1 =>
   refine ⟨fun i j x W hB hx => ?_⟩
   refine veils_of1_heights.calls l0 A0 c0 w.heap.size i j x W ⟨?_⟩ ⟨Kd.C_below (Kd.C_below HR.out (pw_below_drewN (below_alloc (Below.refl _ _) _) _)) hB⟩ HC hx
   exact (hB.block _ (by simp)).trans (by simpa using heap_alloc_new w _)


def veils_of1_triangle.f (l : List (List Int)) (i j : Int) : Option Int :=
 (veils_triangle_sum.f 1000 l (wrap64 (i + 1)) (wrap64 (j + 1))).bind fun a => (veils_triangle_sum.f 1000 l i (wrap64 (j + 1))).bind fun b => (veils_triangle_sum.f 1000 l (wrap64 (i + 1)) j).bind fun c => (veils_triangle_sum.f 1000 l i j).bind fun d =>
   some (wrap64 (wrap64 (wrap64 (a - b) - c) + d))

def veils_of_triangle.f (l : List (List Int)) : Option (List (List Int)) := (veils_triangle_size.f l).bind fun n => veils_made_int.f (veils_of1_triangle.f l) 1000 n

end Go.Proofs.Ytdinepghommchaa.V

-- Written by a program of this session over the kit's printer: wip/gp.py.
namespace Go.Proofs.Ytdinepghommchaa.V
open Go.RowKit Go.Proofs.YtdinepghommchaaW.PrintWords Go.Proofs.YtdinepghommchaaW.PrintLast Go.Proofs.YtdinepghommchaaW.PrintMore
attribute [local go_sem] max2_int min2_int max_two min_two max_three min_three max_four min_four   -- for this text's walks alone
set_option linter.unusedVariables false
set_option linter.unusedSimpArgs false

/-! ### veils_From: function 33 -/
mutual
def veils_From.j0 : Nat → List (List Int) → Int → Bool → Option ((List (List Int)) × Int)
 | 0, _, _, _ => none
 | k + 1, x0, x4, x19 => if x19 = true then (some (([] : List (List Int)), 2)) else (veils_From.l0 k x0 x4 x0 (x0.length : Int) 0)
def veils_From.l0 : Nat → List (List Int) → Int → List (List Int) → Int → Int → Option ((List (List Int)) × Int)
 | 0, _, _, _, _, _ => none
 | k + 1, x0, x4, x20, x21, x22 => if x22 < x21 then (if 0 ≤ x22 then (if x22 < (x20.length : Int) then (if ((rd_L1 x20 x22).length : Int) = (wrap64 (x22 + 1)) then (veils_From.l1 k x0 x4 (rd_L1 x20 x22) x20 x21 x22 (rd_L1 x20 x22) ((rd_L1 x20 x22).length : Int) 0) else (some (([] : List (List Int)), 2))) else (none)) else (none)) else ((veils_of_triangle.f x0).bind fun t522 => ((veils_read.f k t522).bind fun bt525 => (if bt525.2 = true then (some (t522, 0)) else (some (([] : List (List Int)), 2)))))
def veils_From.l1 : Nat → List (List Int) → Int → List Int → List (List Int) → Int → Int → List Int → Int → Int → Option ((List (List Int)) × Int)
 | 0, _, _, _, _, _, _, _, _, _ => none
 | k + 1, x0, x4, x6, x20, x21, x22, x32, x33, x34 => if x34 < x33 then (if 0 ≤ x34 then (if x34 < (x32.length : Int) then (if (rd x32 x34) < 1 then (some (([] : List (List Int)), 2)) else (if (rd x32 x34) > x4 then (some (([] : List (List Int)), 2)) else (if x34 > 0 then (if 0 ≤ (wrap64 (x34 - 1)) then (if (wrap64 (x34 - 1)) < (x6.length : Int) then (if (rd x32 x34) ≤ (rd x6 (wrap64 (x34 - 1))) then (some (([] : List (List Int)), 2)) else (veils_From.l1 k x0 x4 x6 x20 x21 x22 x32 x33 (wrap64 (x34 + 1)))) else (none)) else (none)) else (veils_From.l1 k x0 x4 x6 x20 x21 x22 x32 x33 (wrap64 (x34 + 1)))))) else (none)) else (none)) else (veils_From.l0 k x0 x4 x20 x21 (wrap64 (x22 + 1)))
end
def veils_From.f (k : Nat) (l0 : List (List Int)) : Option ((List (List Int)) × Int) := if (l0.length : Int) < 1 then (veils_From.j0 k l0 (l0.length : Int) true) else (veils_From.j0 k l0 (l0.length : Int) (decide ((l0.length : Int) > 5)))
end Go.Proofs.Ytdinepghommchaa.V

-- Written by a program of this session over the kit's printer: wip/gp.py.
namespace Go.Proofs.Ytdinepghommchaa.V
open Go.RowKit Go.Proofs.YtdinepghommchaaW.PrintWords Go.Proofs.YtdinepghommchaaW.PrintLast Go.Proofs.YtdinepghommchaaW.PrintMore
attribute [local go_sem] max2_int min2_int max_two min_two max_three min_three max_four min_four   -- for this text's walks alone
set_option linter.unusedVariables false
set_option linter.unusedSimpArgs false

/-! ### veils_veil_sum: function 54 -/
mutual
def veils_veil_sum.l0 : Nat → Int → Int → List (List Int) → Int → Int → Option (Int)
 | 0, _, _, _, _, _ => none
 | k + 1, x2, x7, x14, x15, x16 => if x16 < x15 then (if 0 ≤ x16 then (if x16 < (x14.length : Int) then (if 0 ≤ x2 then (if x2 ≤ ((rd_L1 x14 x16).length : Int) then (veils_veil_sum.l1 k x2 x7 x14 x15 x16 ((rd_L1 x14 x16).take (x2 : Int).toNat) (((rd_L1 x14 x16).take (x2 : Int).toNat).length : Int) 0) else (none)) else (none)) else (none)) else (none)) else (some x7)
def veils_veil_sum.l1 : Nat → Int → Int → List (List Int) → Int → Int → List Int → Int → Int → Option (Int)
 | 0, _, _, _, _, _, _, _, _ => none
 | k + 1, x2, x7, x14, x15, x16, x22, x23, x24 => if x24 < x23 then (if 0 ≤ x24 then (if x24 < (x22.length : Int) then (veils_veil_sum.l1 k x2 (wrap64 (x7 + (rd x22 x24))) x14 x15 x16 x22 x23 (wrap64 (x24 + 1))) else (none)) else (none)) else (veils_veil_sum.l0 k x2 x7 x14 x15 (wrap64 (x16 + 1)))
end
def veils_veil_sum.f (k : Nat) (l0 : List (List Int)) (a1 : Int) (a2 : Int) : Option (Int) := if 0 ≤ a1 then (if a1 ≤ (l0.length : Int) then ((some (l0.take (a1 : Int).toNat : List (List Int))).bind fun y135 => (veils_veil_sum.l0 k a2 0 y135 (y135.length : Int) 0)) else (none)) else (none)
set_option maxHeartbeats 8000000 in
set_option maxRecDepth 100000 in
theorem veils_veil_sum.calls (k : Nat) (A0 : Option Addr) (c0 : Nat) (l0 : List (List Int)) (a1 : Int) (a2 : Int) (r : Int) (w : World) (hr0 : Kd.C (Kd.slice 3 (Kd.int .i64)) w A0 l0.length l0) (hc0 : l0.length ≤ c0) (h : veils_veil_sum.f k l0 a1 a2 = some r) :
 Calls Try.prog 54 #[.slice A0 l0.length c0, .int .i64 a1, .int .i64 a2] w fun e w' => e = .returned (.int .i64 r) ∧ Drawn0 w w' := by
 have HR0 := Aside0.mk hr0
 have HC0 := Aside0.mk hc0
 clear hr0 hc0
 have H : (if 0 ≤ a1 then (if a1 ≤ (l0.length : Int) then ((some (l0.take (a1 : Int).toNat : List (List Int))).bind fun y135 => (veils_veil_sum.l0 k a2 0 y135 (y135.length : Int) 0)) else (none)) else (none)) = some r := h
 clear h
 by_cases c4 : 0 ≤ a1
 · rw [if_pos c4] at H
   have c4b0 := eq_true c4
   have c4b1 : decide (0 ≤ a1) = true := decide_eq_true c4
   clear c4
   by_cases c5 : a1 ≤ (l0.length : Int)
   · rw [if_pos c5] at H
     have c5b0 := eq_true c5
     have c5b1 : decide (a1 ≤ (l0.length : Int)) = true := decide_eq_true c5
     clear c5
     obtain ⟨y135, hy135⟩ : ∃ y_ : List (List Int), y_ = (l0.take (a1 : Int).toNat) := ⟨_, rfl⟩
     replace H : (veils_veil_sum.l0 k a2 0 y135 (y135.length : Int) 0) = some r := by first | (rw [hy135]; with_reducible exact H) | (have H2_ := (Option.bind_some _ _).symm.trans H; rw [hy135]; with_reducible exact H2_) | (have H2_ := (Option.bind_some _ _).symm.trans H; with_reducible exact H2_) | with_reducible exact H | (rw [hy135]; exact H) | exact H
     have Ny135 := Aside0.mk hy135
     clear hy135
     have H' := Aside0.mk H
     clear H
     have q6 : (a1 : Int) ≤ ((l0.length : Int) : Int) := od_
     obtain ⟨i06, hi06, _, hsz6, _⟩ := info_parts info28
     have hroom6 : l0.length ≤ c0 := HC0.out
     have hC6 : Kd.C (Kd.slice 3 (Kd.int .i64)) _ A0 l0.length l0 := HR0.out
     have hcut6 := cut_to (P := Try.prog) 49 28 .i64 Try.underlying49 hi06 A0 l0.length c0 a1 (od_) q6 hroom6
     have hr6 := Kd.C_take (m := (a1 : Int).toNat) hC6 (by omega)
     have hy6 : y135.length = (a1 : Int).toNat := (by rw [Ny135.out, List.length_take]; omega)
     rw [← Ny135.out] at hr6
     rw [← hy6] at hcut6
     have HR138 := Aside0.mk hr6
     have HC138 := Aside0.mk (show y135.length ≤ c0 from by omega)
     clear hr6 hC6 hroom6 hi06 hsz6
     have KY6 := Aside0.mk hy6
     clear hy6
     replace q6 := eq_true q6
     go_enter Try.func54, Try.ntmps54
     go_wp2
     go_loopg [7, 16] k (fun kq v7 v16 w' => ∃ (x7_1 : Int) (x16_1 : Int), v7 = .int .i64 x7_1 ∧ v16 = .int .i64 x16_1 ∧ Aside0 (veils_veil_sum.l0 kq a2 x7_1 y135 (y135.length : Int) x16_1 = some r) ∧ Aside0 (kq ≤ k) ∧ Drawn0 w w')
     case atStart => exact ⟨(0), (0), rf_, rf_, H', ⟨Nat.le_refl _⟩, dr_⟩
     case round =>
      clear H'
      try clear p2
      try clear c4
      try clear c4b0
      try clear c4b1
      try clear c5
      try clear c5b0
      try clear c5b1
      try clear q6
      try clear q6
      obtain ⟨x7_1, x16_1, rfl, rfl, HA, HK1, ⟨m1, rfl⟩⟩ := hrel
      cases gk with
      | zero => exact absurd HA.out (by simp [veils_veil_sum.l0])
      | succ k1 =>
       have H := HA.out
       clear HA
       simp only [veils_veil_sum.l0] at H
       by_cases c7 : x16_1 < (y135.length : Int)
       · rw [if_pos c7] at H
         have c7b0 : decide (x16_1 < (y135.length : Int)) = true := decide_eq_true c7
         clear c7
         by_cases c8 : 0 ≤ x16_1
         · rw [if_pos c8] at H
           have c8b0 : decide (0 ≤ x16_1) = true := decide_eq_true c8
           clear c8
           by_cases c9 : x16_1 < (y135.length : Int)
           · rw [if_pos c9] at H
             have c9b0 : decide (x16_1 < (y135.length : Int)) = true := decide_eq_true c9
             clear c9
             by_cases c10 : 0 ≤ a2
             · rw [if_pos c10] at H
               have c10b0 := eq_true c10
               have c10b1 : decide (0 ≤ a2) = true := decide_eq_true c10
               clear c10
               by_cases c11 : a2 ≤ ((rd_L1 y135 x16_1).length : Int)
               · rw [if_pos c11] at H
                 have c11b0 := eq_true c11
                 have c11b1 : decide (a2 ≤ ((rd_L1 y135 x16_1).length : Int)) = true := decide_eq_true c11
                 clear c11
                 have H' := Aside0.mk H
                 clear H
                 obtain ⟨ad139, A139_0, c139_0, e139, hx139_0, HC139_0, HR139_0, p139, q139⟩ := al_ HR138.out x16_1
                 cases e139
                 obtain ⟨i012, hi012, _, hsz12, _⟩ := info_parts info3
                 obtain ⟨hcut12, hA12, hC12⟩ := print_take_of (P := Try.prog) (Value.int .i64) 0 28 3 .i64 Try.underlying28 hi012 hsz12 A139_0 c139_0 (rd_L1 y135 x16_1) a2 (od_) (od_) HC139_0.out
                 have hr140 := (Kd.C_of_reads (h1 := fun _ => rfl) (hA12 _ (Kd.reads_of_C HR139_0.out)))
                 clear hA12 hi012 hsz12
                 replace H' := H'.out
                 obtain ⟨y140, hy140⟩ : ∃ y_ : List Int, y_ = ((rd_L1 y135 x16_1).take (a2 : Int).toNat) := ⟨_, rfl⟩
                 have ly140 : (a2 : Int).toNat = y140.length := by
                  have h1_ := of_decide_eq_true c11b1
                  have h2_ := of_decide_eq_true c10b1
                  rw [hy140, List.length_take]; omega
                 rw [← hy140] at hr140 H' hC12
                 try rw [← hy140] at hcut12
                 try rw [ly140] at hcut12
                 have HR140 := Aside0.mk hr140
                 have HC140 := Aside0.mk hC12
                 replace H' := Aside0.mk H'
                 clear hr140 hC12 ly140 hy140
                 go_wp2
                 go_loopg [7, 24] k1 (fun kq v7 v24 w' => ∃ (x7_2 : Int) (x24_2 : Int), v7 = .int .i64 x7_2 ∧ v24 = .int .i64 x24_2 ∧ Aside0 (veils_veil_sum.l1 kq a2 x7_2 y135 (y135.length : Int) x16_1 y140 (y140.length : Int) x24_2 = some r) ∧ Aside0 (kq ≤ k1) ∧ Drawn0 w w')
                 case atStart => exact ⟨(x7_1), (0), rf_, rf_, H', ⟨Nat.le_refl _⟩, dr_⟩
                 case round =>
                  clear H'
                  try clear c1
                  try clear p1
                  try clear q1
                  try clear hx1
                  try clear p2
                  try clear c4
                  try clear c4b0
                  try clear c4b1
                  try clear c5
                  try clear c5b0
                  try clear c5b1
                  try clear q6
                  try clear c7
                  try clear c7b0
                  try clear c8
                  try clear c8b0
                  try clear c9
                  try clear c9b0
                  try clear c10
                  try clear c10b0
                  try clear c10b1
                  try clear c11
                  try clear c11b0
                  try clear c11b1
                  try clear hx139_0
                  try clear p139
                  try clear p2
                  try clear q139
                  try clear q6
                  obtain ⟨x7_2, x24_2, rfl, rfl, HA, HK2, ⟨m2, rfl⟩⟩ := hrel
                  cases gk with
                  | zero => exact absurd HA.out (by simp [veils_veil_sum.l1])
                  | succ k2 =>
                   have H := HA.out
                   clear HA
                   simp only [veils_veil_sum.l1] at H
                   by_cases c13 : x24_2 < (y140.length : Int)
                   · rw [if_pos c13] at H
                     have c13b0 : decide (x24_2 < (y140.length : Int)) = true := decide_eq_true c13
                     clear c13
                     by_cases c14 : 0 ≤ x24_2
                     · rw [if_pos c14] at H
                       have c14b0 : decide (0 ≤ x24_2) = true := decide_eq_true c14
                       clear c14
                       by_cases c15 : x24_2 < (y140.length : Int)
                       · rw [if_pos c15] at H
                         have c15b0 : decide (x24_2 < (y140.length : Int)) = true := decide_eq_true c15
                         clear c15
                         have H' := Aside0.mk H
                         clear H
                         obtain ⟨ad141, e141, hx141_0, p141, q141⟩ := ai_ HR140.out x24_2
                         cases e141
                         go_wp2
                         go_roundg k2
                         case measure => have := HK1.out; have := HK2.out; omega
                         case rel => exact ⟨(wrap64 (x7_2 + (rd y140 x24_2))), (wrap64 (x24_2 + 1)), rf_, rf_, H', ⟨by have := HK1.out; have := HK2.out; omega⟩, dr_⟩
                       · rw [if_neg c15] at H
                         exact absurd H (by simp)
                     · rw [if_neg c14] at H
                       exact absurd H (by simp)
                   · rw [if_neg c13] at H
                     have c13b0 : decide (x24_2 < (y140.length : Int)) = false := decide_eq_false c13
                     clear c13
                     have H' := Aside0.mk H
                     clear H
                     go_wp2
                     go_roundg k2
                     case measure => have := HK1.out; have := HK2.out; omega
                     case rel => exact ⟨(x7_2), (wrap64 (x16_1 + 1)), rf_, rf_, H', ⟨by have := HK1.out; have := HK2.out; omega⟩, dr_⟩
               · rw [if_neg c11] at H
                 exact absurd H (by simp)
             · rw [if_neg c10] at H
               exact absurd H (by simp)
           · rw [if_neg c9] at H
             exact absurd H (by simp)
         · rw [if_neg c8] at H
           exact absurd H (by simp)
       · rw [if_neg c7] at H
         have c7b0 : decide (x16_1 < (y135.length : Int)) = false := decide_eq_false c7
         clear c7
         obtain rfl := Option.some.inj H
         go_wp2
         go_ret
         exact ⟨rf_, dr_⟩
   · rw [if_neg c5] at H
     exact absurd H (by simp)
 · rw [if_neg c4] at H
   exact absurd H (by simp)

end Go.Proofs.Ytdinepghommchaa.V

-- Written by a program of this session over the kit's printer: wip/gp.py.
namespace Go.Proofs.Ytdinepghommchaa.V
open Go.RowKit Go.Proofs.YtdinepghommchaaW.PrintWords Go.Proofs.YtdinepghommchaaW.PrintLast Go.Proofs.YtdinepghommchaaW.PrintMore
attribute [local go_sem] max2_int min2_int max_two min_two max_three min_three max_four min_four   -- for this text's walks alone
set_option linter.unusedVariables false
set_option linter.unusedSimpArgs false

/-! ### veils_Triangle: function 31 -/
mutual
def veils_Triangle.l0 : Nat → List (List Int) → List (List Int) → Int → Int → Option ((List (List Int)) × Int)
 | 0, _, _, _, _ => none
 | k + 1, x4, x6, x18, x19 => if x19 < x18 then (veils_Triangle.l1 k x4 x6 x19 ([] : List Int) x18 x19 (x4.length : Int) 0) else (some (x6, 0))
def veils_Triangle.l1 : Nat → List (List Int) → List (List Int) → Int → List Int → Int → Int → Int → Int → Option ((List (List Int)) × Int)
 | 0, _, _, _, _, _, _, _, _ => none
 | k + 1, x4, x6, x7, x8, x18, x19, x23, x24 => if x24 < x23 then ((veils_veil_sum.f k x4 (wrap64 (x7 + 1)) (wrap64 (x24 + 1))).bind fun t149 => ((veils_veil_sum.f k x4 (wrap64 (x7 + 1)) x24).bind fun t150 => (if t149 > t150 then (if x8.length < 17592186044416 then (veils_Triangle.l1 k x4 x6 x7 (x8 ++ [wrap64 (x24 + 1)]) x18 x19 x23 (wrap64 (x24 + 1))) else (none)) else (veils_Triangle.l1 k x4 x6 x7 x8 x18 x19 x23 (wrap64 (x24 + 1)))))) else (if x6.length < 5864062014805 then (veils_Triangle.l0 k x4 (x6 ++ [x8]) x18 (wrap64 (x19 + 1))) else (none))
end
def veils_Triangle.f (k : Nat) (l0 : List (List Int)) : Option ((List (List Int)) × Int) := (veils_read.f k l0).bind fun bt142 => (if bt142.2 = true then (veils_Triangle.l0 k bt142.1 ([] : List (List Int)) (bt142.1.length : Int) 0) else (some (([] : List (List Int)), 2)))
set_option maxHeartbeats 8000000 in
set_option maxRecDepth 100000 in
theorem veils_Triangle.calls (k : Nat) (A0 : Option Addr) (c0 : Nat) (l0 : List (List Int)) (r1 : List (List Int)) (r2 : Int) (w : World) (hr0 : Kd.C (Kd.slice 3 (Kd.int .i64)) w A0 l0.length l0) (hc0 : l0.length ≤ c0) (h : veils_Triangle.f k l0 = some (r1, r2)) :
 Calls Try.prog 31 #[.slice A0 l0.length c0] w fun e w' => ∃ v0_ : Value, e = .returned (.tuple #[v0_, .int .i64 r2]) ∧ Kd.S (Kd.slice 3 (Kd.int .i64)) 28 w' w.heap.size (fun _ => True) v0_ r1 ∧ Below w.heap.size w w' := by
 have HR0 := Aside0.mk hr0
 have HC0 := Aside0.mk hc0
 clear hr0 hc0
 have HB := Aside0.mk (Below.refl w.heap.size w)
 have H : ((veils_read.f k l0).bind fun bt142 => (if bt142.2 = true then (veils_Triangle.l0 k bt142.1 ([] : List (List Int)) (bt142.1.length : Int) 0) else (some (([] : List (List Int)), 2)))) = some (r1, r2) := h
 clear h
 replace H := Option.bind_eq_some_iff.mp H
 obtain ⟨⟨t142, t145⟩, A20, H⟩ := H
 replace H : (if t145 = true then (veils_Triangle.l0 k t142 ([] : List (List Int)) (t142.length : Int) 0) else (some (([] : List (List Int)), 2))) = some (r1, r2) := H
 have A2 := Aside0.mk A20
 clear A20
 by_cases c3 : t145 = true
 · subst c3
   have H1 : (veils_Triangle.l0 k t142 ([] : List (List Int)) (t142.length : Int) 0) = some (r1, r2) := by rw [if_pos rfl] at H; exact H
   clear H
   have H := H1
   clear H1
   have H' := Aside0.mk H
   clear H
   go_enter Try.func31, Try.ntmps31
   go_wp2_with (first | ((with_reducible refine gate_callee (f := 51) rfl ?_); refine goesL_ (some 12) rfl rfl Try.func51 (by kernel_rfl) rfl #[.slice A0 l0.length c0] rfl ar_ ?_; (with_reducible refine (veils_read.calls k (fun k_ => k_ < w.heap.size) _ _ l0 t142 true _ ?side1 A2.out).mono ?_); (case side1 => exact Kd.V_mk HC0.out (Kd.F_below (Kd.C_F (Kd.heap_slice 3 (Kd.heap_int .i64)) HR0.out) (bel_))); rintro e w4 ⟨v143, rfl, ho0, hb⟩; refine ⟨_, rfl, ?_⟩; have n0_ := Aside0.mk (Kd.V_lower (Kd.V_mono (ok' := fun k_ => True) ho0 (fun k_ hk_ => trivial)) (below_size (bel_))); have n1_ := Aside0.mk (below_step (bel_) hb); clear HB; have HO144 := n0_; have HB := n1_; clear n0_ n1_; (try clear hb); (try clear hb2); (try clear hk); (try clear hi); (try clear ho0); obtain ⟨Ao5, co5, eo5⟩ := Kd.V_slice HO144.out; subst eo5))
   go_loopg [6, 19] k (fun kq v6 v19 w' => ∃ (x6_1 : List (List Int)) (x19_1 : Int), v19 = .int .i64 x19_1 ∧ Aside0 (veils_Triangle.l0 kq t142 x6_1 (t142.length : Int) x19_1 = some (r1, r2)) ∧ Aside0 (kq ≤ k) ∧ Aside0 (Kd.V (Kd.slice 3 (Kd.int .i64)) 28 w' w.heap.size (fun k_ => some k_ ≠ (v6 : Value).ownBlock) (.slice Ao5 t142.length co5) t142) ∧ Aside0 (Kd.S (Kd.slice 3 (Kd.int .i64)) 28 w' w.heap.size (fun _ => True) v6 x6_1) ∧ Aside0 (Below w.heap.size w w'))
   case atStart => exact ⟨(([] : List (List Int))), (0), rf_, H', ⟨Nat.le_refl _⟩, ⟨by (with_reducible repeat (first | apply Kd.V_alloc | apply Kd.V_drewN | apply Kd.V_drew)); exact Kd.V_mono HO144.out (fun _ hk => (by simp [Value.ownBlock]))⟩, ⟨by first | exact Kd.S_nil _ _ _ _ _ | exact Kd.N_nil _ _ _ _ _ | exact Kd.V_nil _ _ _ _ _ | exact Kd.Q_nil _ _ _ _ _ | exact Kd.R_nil _ _ _ _ _⟩, ⟨bel_⟩⟩
   case round =>
    clear H'
    try clear p2
    try clear c3
    try clear c5
    obtain ⟨x6_1, x19_1, rfl, HA, HK1, HO_4, HO_6, HB⟩ := hrel
    cases gk with
    | zero => exact absurd HA.out (by simp [veils_Triangle.l0])
    | succ k1 =>
     have H := HA.out
     clear HA
     simp only [veils_Triangle.l0] at H
     by_cases c6 : x19_1 < (t142.length : Int)
     · rw [if_pos c6] at H
       have c6b0 : decide (x19_1 < (t142.length : Int)) = true := decide_eq_true c6
       clear c6
       have H' := Aside0.mk H
       clear H
       go_wp2
       go_loopg [8, 24] k1 (fun kq v8 v24 w' => ∃ (x8_2 : List Int) (x24_2 : Int), v24 = .int .i64 x24_2 ∧ Aside0 (veils_Triangle.l1 kq t142 x6_1 x19_1 x8_2 (t142.length : Int) x19_1 (t142.length : Int) x24_2 = some (r1, r2)) ∧ Aside0 (kq ≤ k1) ∧ Aside0 (Kd.V (Kd.slice 3 (Kd.int .i64)) 28 w' w.heap.size (fun k_ => some k_ ≠ (u6 : Value).ownBlock ∧ some k_ ≠ (v8 : Value).ownBlock) (.slice Ao5 t142.length co5) t142) ∧ Aside0 (Kd.S (Kd.slice 3 (Kd.int .i64)) 28 w' w.heap.size (fun k_ => some k_ ≠ (v8 : Value).ownBlock) u6 x6_1) ∧ Aside0 (Kd.R (Kd.int .i64) 3 w' w.heap.size (fun _ => True) v8 x8_2) ∧ Aside0 (Below w.heap.size w w'))
       case atStart => exact ⟨(([] : List Int)), (0), rf_, H', ⟨Nat.le_refl _⟩, ⟨by (with_reducible repeat (first | apply Kd.V_alloc | apply Kd.V_drewN | apply Kd.V_drew)); exact Kd.V_mono HO_4.out (fun _ hk => ⟨hk, (by simp [Value.ownBlock])⟩)⟩, ⟨by (with_reducible repeat (first | apply Kd.S_alloc | apply Kd.S_drewN | apply Kd.S_drew)); exact Kd.S_mono HO_6.out (fun _ hk => (by simp [Value.ownBlock]))⟩, ⟨by first | exact Kd.R_nil _ _ _ _ _ | exact Kd.N_nil _ _ _ _ _ | exact Kd.V_nil _ _ _ _ _ | exact Kd.Q_nil _ _ _ _ _ | exact Kd.S_nil _ _ _ _ _⟩, ⟨bel_⟩⟩
       case round =>
        clear H'
        try clear p2
        try clear c3
        try clear c5
        try clear c6
        try clear c6b0
        try clear p2
        obtain ⟨x8_2, x24_2, rfl, HA, HK2, HO_4, HO_6, HO_8, HB⟩ := hrel
        cases gk with
        | zero => exact absurd HA.out (by simp [veils_Triangle.l1])
        | succ k2 =>
         have H := HA.out
         clear HA
         simp only [veils_Triangle.l1] at H
         by_cases c7 : x24_2 < (t142.length : Int)
         · rw [if_pos c7] at H
           have c7b0 : decide (x24_2 < (t142.length : Int)) = true := decide_eq_true c7
           clear c7
           replace H := Option.bind_eq_some_iff.mp H
           obtain ⟨t149, A80, H⟩ := H
           replace H : ((veils_veil_sum.f k2 t142 (wrap64 (x19_1 + 1)) x24_2).bind fun t150 => (if t149 > t150 then (if x8_2.length < 17592186044416 then (veils_Triangle.l1 k2 t142 x6_1 x19_1 (x8_2 ++ [wrap64 (x24_2 + 1)]) (t142.length : Int) x19_1 (t142.length : Int) (wrap64 (x24_2 + 1))) else (none)) else (veils_Triangle.l1 k2 t142 x6_1 x19_1 x8_2 (t142.length : Int) x19_1 (t142.length : Int) (wrap64 (x24_2 + 1))))) = some (r1, r2) := H
           have A8 := Aside0.mk A80
           clear A80
           replace H := Option.bind_eq_some_iff.mp H
           obtain ⟨t150, A90, H⟩ := H
           replace H : (if t149 > t150 then (if x8_2.length < 17592186044416 then (veils_Triangle.l1 k2 t142 x6_1 x19_1 (x8_2 ++ [wrap64 (x24_2 + 1)]) (t142.length : Int) x19_1 (t142.length : Int) (wrap64 (x24_2 + 1))) else (none)) else (veils_Triangle.l1 k2 t142 x6_1 x19_1 x8_2 (t142.length : Int) x19_1 (t142.length : Int) (wrap64 (x24_2 + 1)))) = some (r1, r2) := H
           have A9 := Aside0.mk A90
           clear A90
           by_cases c10 : t149 > t150
           · rw [if_pos c10] at H
             have c10b0 : decide (t150 < t149) = true := decide_eq_true c10
             clear c10
             by_cases c11 : x8_2.length < 17592186044416
             · rw [if_pos c11] at H
               have LMc11 := Aside0.mk c11
               clear c11
               obtain ⟨y151, hy151⟩ : ∃ y_ : List Int, y_ = (x8_2 ++ [wrap64 (x24_2 + 1)]) := ⟨_, rfl⟩
               replace H : (veils_Triangle.l1 k2 t142 x6_1 x19_1 y151 (t142.length : Int) x19_1 (t142.length : Int) (wrap64 (x24_2 + 1))) = some (r1, r2) := by first | (rw [hy151]; with_reducible exact H) | (have H2_ := (Option.bind_some _ _).symm.trans H; rw [hy151]; with_reducible exact H2_) | (have H2_ := (Option.bind_some _ _).symm.trans H; with_reducible exact H2_) | with_reducible exact H | (rw [hy151]; exact H) | exact H
               have Ny151 := Aside0.mk hy151
               clear hy151
               have H' := Aside0.mk H
               clear H
               go_wp2_with (first | ((with_reducible refine gate_callee (f := 54) rfl ?_); refine goesL_ (some 32) rfl rfl Try.func54 (by kernel_rfl) rfl #[.slice Ao5 t142.length co5, .int .i64 (wrap64 (x19_1 + 1)), .int .i64 (wrap64 (x24_2 + 1))] rfl ar_ ?_; (with_reducible refine (veils_veil_sum.calls k2 _ _ t142 (wrap64 (x19_1 + 1)) (wrap64 (x24_2 + 1)) t149 _ ?side1 ?side2 A8.out).mono ?_); (case side1 => repeat (first | exact (Kd.V_reads' HO_4.out).2.2 | (with_reducible refine Kd.C_alloc ?_ _) | (with_reducible refine Kd.C_drewN ?_ _) | (with_reducible refine Kd.C_drew ?_))); (case side2 => exact (Kd.V_reads' HO_4.out).2.1); rintro e w' ⟨rfl, ⟨nd, rfl⟩⟩; refine ⟨_, rfl, ?_⟩) | ((with_reducible refine gate_callee (f := 54) rfl ?_); refine goesL_ (some 37) rfl rfl Try.func54 (by kernel_rfl) rfl #[.slice Ao5 t142.length co5, .int .i64 (wrap64 (x19_1 + 1)), .int .i64 x24_2] rfl ar_ ?_; (with_reducible refine (veils_veil_sum.calls k2 _ _ t142 (wrap64 (x19_1 + 1)) x24_2 t150 _ ?side1 ?side2 A9.out).mono ?_); (case side1 => repeat (first | exact (Kd.V_reads' HO_4.out).2.2 | (with_reducible refine Kd.C_alloc ?_ _) | (with_reducible refine Kd.C_drewN ?_ _) | (with_reducible refine Kd.C_drew ?_))); (case side2 => exact (Kd.V_reads' HO_4.out).2.1); rintro e w' ⟨rfl, ⟨nd, rfl⟩⟩; refine ⟨_, rfl, ?_⟩) | ((with_reducible refine gate_builtin (b := .append) (xs := #[.tmp 39, .tmp 42]) rfl ?_); at_builtin; refine Kd.R_append (Kd.int .i64) (w0 := w) w.heap.size rfl (.tmp 39) (.tmp 42) 28 3 (.int .i64 0) 8 rfl Try.underlying28 info3 rfl (by decide) (by omega) u8 x8_2 (wrap64 (x24_2 + 1)) [.int .i64 (wrap64 (x24_2 + 1))] (fun _ => True) (fun _ => False) rfl rfl ?aP (fun _ hk => hk.elim) ?aF ?aO ?aB ?aS ?aL ?_; (case aP => exact rfl); (case aB => exact (bel_)); (case aF => exact (fun _ _ => trivial)); (case aO => exact (nR_ HO_8.out)); (case aS => exact (below_size (bel_))); (case aL => have := LMc11.out; omega); intro v152 w12 ho hb hg hat; rw [← Ny151.out] at ho; have n0_ := Aside0.mk (Kd.V_afterv (ok := (fun k_ => some k_ ≠ (u6 : Value).ownBlock)) (nV_ HO_4.out) hg hat); have n1_ := Aside0.mk (Kd.S_after (ok := (fun _ => True)) (by (with_reducible repeat (first | apply Kd.S_alloc | apply Kd.S_drewN | apply Kd.S_drew)); exact Kd.S_mono HO_6.out (fun _ hk => ⟨trivial, hk⟩)) hg hat); have n2_ := Aside0.mk (hb); have n3_ := Aside0.mk (ho); clear HO_4; clear HO_6; clear HB; clear HO_8; have HO_4 := n0_; have HO_6 := n1_; have HB := n2_; have HO153 := n3_; clear n0_ n1_ n2_ n3_; clear ho hb hg hat))
               go_roundg k2
               case measure => have := HK1.out; have := HK2.out; omega
               case rel => exact ⟨(y151), (wrap64 (x24_2 + 1)), rf_, H', ⟨by have := HK1.out; have := HK2.out; omega⟩, ⟨nV_ HO_4.out⟩, ⟨by (with_reducible repeat (first | apply Kd.S_alloc | apply Kd.S_drewN | apply Kd.S_drew)); exact Kd.S_mono HO_6.out (fun _ hk => hk.2)⟩, ⟨nR_ HO153.out⟩, ⟨bel_⟩⟩
             · rw [if_neg c11] at H
               exact absurd H (by simp)
           · rw [if_neg c10] at H
             have c10b0 : decide (t150 < t149) = false := decide_eq_false c10
             clear c10
             have H' := Aside0.mk H
             clear H
             go_wp2_with (first | ((with_reducible refine gate_callee (f := 54) rfl ?_); refine goesL_ (some 32) rfl rfl Try.func54 (by kernel_rfl) rfl #[.slice Ao5 t142.length co5, .int .i64 (wrap64 (x19_1 + 1)), .int .i64 (wrap64 (x24_2 + 1))] rfl ar_ ?_; (with_reducible refine (veils_veil_sum.calls k2 _ _ t142 (wrap64 (x19_1 + 1)) (wrap64 (x24_2 + 1)) t149 _ ?side1 ?side2 A8.out).mono ?_); (case side1 => repeat (first | exact (Kd.V_reads' HO_4.out).2.2 | (with_reducible refine Kd.C_alloc ?_ _) | (with_reducible refine Kd.C_drewN ?_ _) | (with_reducible refine Kd.C_drew ?_))); (case side2 => exact (Kd.V_reads' HO_4.out).2.1); rintro e w' ⟨rfl, ⟨nd, rfl⟩⟩; refine ⟨_, rfl, ?_⟩) | ((with_reducible refine gate_callee (f := 54) rfl ?_); refine goesL_ (some 37) rfl rfl Try.func54 (by kernel_rfl) rfl #[.slice Ao5 t142.length co5, .int .i64 (wrap64 (x19_1 + 1)), .int .i64 x24_2] rfl ar_ ?_; (with_reducible refine (veils_veil_sum.calls k2 _ _ t142 (wrap64 (x19_1 + 1)) x24_2 t150 _ ?side1 ?side2 A9.out).mono ?_); (case side1 => repeat (first | exact (Kd.V_reads' HO_4.out).2.2 | (with_reducible refine Kd.C_alloc ?_ _) | (with_reducible refine Kd.C_drewN ?_ _) | (with_reducible refine Kd.C_drew ?_))); (case side2 => exact (Kd.V_reads' HO_4.out).2.1); rintro e w' ⟨rfl, ⟨nd, rfl⟩⟩; refine ⟨_, rfl, ?_⟩))
             go_roundg k2
             case measure => have := HK1.out; have := HK2.out; omega
             case rel => exact ⟨(x8_2), (wrap64 (x24_2 + 1)), rf_, H', ⟨by have := HK1.out; have := HK2.out; omega⟩, ⟨nV_ HO_4.out⟩, ⟨nS_ HO_6.out⟩, ⟨nR_ HO_8.out⟩, ⟨bel_⟩⟩
         · rw [if_neg c7] at H
           have c7b0 : decide (x24_2 < (t142.length : Int)) = false := decide_eq_false c7
           clear c7
           by_cases c13 : x6_1.length < 5864062014805
           · rw [if_pos c13] at H
             have LMc13 := Aside0.mk c13
             clear c13
             obtain ⟨y146, hy146⟩ : ∃ y_ : List (List Int), y_ = (x6_1 ++ [x8_2]) := ⟨_, rfl⟩
             replace H : (veils_Triangle.l0 k2 t142 y146 (t142.length : Int) (wrap64 (x19_1 + 1))) = some (r1, r2) := by first | (rw [hy146]; with_reducible exact H) | (have H2_ := (Option.bind_some _ _).symm.trans H; rw [hy146]; with_reducible exact H2_) | (have H2_ := (Option.bind_some _ _).symm.trans H; with_reducible exact H2_) | with_reducible exact H | (rw [hy146]; exact H) | exact H
             have Ny146 := Aside0.mk hy146
             clear hy146
             have H' := Aside0.mk H
             clear H
             obtain ⟨Ao15, co15, eo15⟩ := Kd.R_slice HO_8.out
             subst eo15
             go_wp2_with (first | ((with_reducible refine gate_builtin (b := .append) (xs := #[.tmp 45, .tmp 47]) rfl ?_); at_builtin; refine Kd.S_append (Kd.slice 3 (Kd.int .i64)) (w0 := w) w.heap.size rfl (.tmp 45) (.tmp 47) 27 28 (.slice none 0 0) 24 rfl Try.underlying27 info28 rfl (by decide) (by omega) u6 x6_1 x8_2 [.slice Ao15 x8_2.length co15] (fun _ => True) (fun k_ => some k_ = (.slice Ao15 x8_2.length co15 : Value).ownBlock) rfl rfl ?aP (fun k_ hk_ => ((Kd.R_mono (ok' := fun k_ => ((fun _ => True)) k_ ∧ some k_ ≠ (u6 : Value).ownBlock) (Kd.R_apart' (HO_8.out) (Kd.S_typed HO_6.out) (by decide)) (fun k_ hk => ⟨trivial, hk.2⟩))).1 k_ hk_.symm) ?aF ?aO ?aB ?aS ?aL ?_; (case aP => exact Kd.M_row (Kd.R_mono (Kd.R_tight rfl (Kd.R_mono (ok' := fun k_ => ((fun _ => True)) k_ ∧ some k_ ≠ (u6 : Value).ownBlock) (Kd.R_apart' (HO_8.out) (Kd.S_typed HO_6.out) (by decide)) (fun k_ hk => ⟨trivial, hk.2⟩))) (fun _ h_ => h_))); (case aB => exact (bel_)); (case aF => exact (fun _ _ => trivial)); (case aO => exact (by (with_reducible repeat (first | apply Kd.S_alloc | apply Kd.S_drewN | apply Kd.S_drew)); exact Kd.S_mono HO_6.out (fun k_ hk => ⟨trivial, fun e_ => hk e_⟩))); (case aS => exact (below_size (bel_))); (case aL => have := LMc13.out; omega); intro v147 w14 ho hb hg hat; rw [← Ny146.out] at ho; have n0_ := Aside0.mk (Kd.V_afterv (ok := (fun k_ => some k_ ≠ (.slice Ao15 x8_2.length co15 : Value).ownBlock)) (by (with_reducible repeat (first | apply Kd.V_alloc | apply Kd.V_drewN | apply Kd.V_drew)); exact Kd.V_mono HO_4.out (fun _ hk => ⟨hk.2, hk.1⟩)) hg hat); have n1_ := Aside0.mk (hb); have n2_ := Aside0.mk (ho); clear HO_4; clear HB; clear HO_6; clear HO_8; have HO_4 := n0_; have HB := n1_; have HO148 := n2_; clear n0_ n1_ n2_; clear ho hb hg hat))
             go_roundg k2
             case measure => have := HK1.out; have := HK2.out; omega
             case rel => exact ⟨(y146), (wrap64 (x19_1 + 1)), rf_, H', ⟨by have := HK1.out; have := HK2.out; omega⟩, ⟨by (with_reducible repeat (first | apply Kd.V_alloc | apply Kd.V_drewN | apply Kd.V_drew)); exact Kd.V_mono HO_4.out (fun _ hk => hk.2)⟩, ⟨nS_ HO148.out⟩, ⟨bel_⟩⟩
           · rw [if_neg c13] at H
             exact absurd H (by simp)
     · rw [if_neg c6] at H
       have c6b0 : decide (x19_1 < (t142.length : Int)) = false := decide_eq_false c6
       clear c6
       simp only [Option.some.injEq, Prod.mk.injEq] at H
       obtain ⟨rfl, rfl⟩ := H
       go_wp2
       go_ret2
       exact ⟨_, er_, by (with_reducible repeat (first | apply Kd.S_alloc | apply Kd.S_drewN | apply Kd.S_drew)); exact HO_6.out, bel_⟩
 · replace c3 := Bool.eq_false_iff.mpr c3
   subst c3
   have H1 : (some (([] : List (List Int)), 2)) = some (r1, r2) := by rw [if_neg (show ¬ (false = true) by decide)] at H; exact H
   clear H
   have H := H1
   clear H1
   simp only [Option.some.injEq, Prod.mk.injEq] at H
   obtain ⟨rfl, rfl⟩ := H
   go_enter Try.func31, Try.ntmps31
   go_wp2_with (first | ((with_reducible refine gate_callee (f := 51) rfl ?_); refine goesL_ (some 12) rfl rfl Try.func51 (by kernel_rfl) rfl #[.slice A0 l0.length c0] rfl ar_ ?_; (with_reducible refine (veils_read.calls k (fun k_ => k_ < w.heap.size) _ _ l0 t142 false _ ?side1 A2.out).mono ?_); (case side1 => exact Kd.V_mk HC0.out (Kd.F_below (Kd.C_F (Kd.heap_slice 3 (Kd.heap_int .i64)) HR0.out) (bel_))); rintro e w16 ⟨v143, rfl, ho0, hb⟩; refine ⟨_, rfl, ?_⟩; have n0_ := Aside0.mk (Kd.V_lower (Kd.V_mono (ok' := fun k_ => True) ho0 (fun k_ hk_ => trivial)) (below_size (bel_))); have n1_ := Aside0.mk (below_step (bel_) hb); clear HB; have HO144 := n0_; have HB := n1_; clear n0_ n1_; (try clear hb); (try clear hb2); (try clear hk); (try clear hi); (try clear ho0)))
   go_ret2
   exact ⟨_, er_, by first | exact Kd.S_nil _ _ _ _ _ | exact Kd.N_nil _ _ _ _ _ | exact Kd.V_nil _ _ _ _ _ | exact Kd.Q_nil _ _ _ _ _ | exact Kd.R_nil _ _ _ _ _, bel_⟩

end Go.Proofs.Ytdinepghommchaa.V

-- Written by a program of this session over the kit's printer: wip/gp.py.
namespace Go.Proofs.Ytdinepghommchaa.V
open Go.RowKit Go.Proofs.YtdinepghommchaaW.PrintWords Go.Proofs.YtdinepghommchaaW.PrintLast Go.Proofs.YtdinepghommchaaW.PrintMore
attribute [local go_sem] max2_int min2_int max_two min_two max_three min_three max_four min_four   -- for this text's walks alone
set_option linter.unusedVariables false
set_option linter.unusedSimpArgs false

/-! ### clocheref09_Same: function 14 -/
mutual
def clocheref09_Same.l0 : Nat → List (List Int) → List (List Int) → Int → Option (Bool)
 | 0, _, _, _ => none
 | k + 1, x0, x1, x5 => if x5 < (x0.length : Int) then (if 0 ≤ x5 then (if x5 < (x1.length : Int) then (if ((rd_L1 x0 x5).length : Int) = ((rd_L1 x1 x5).length : Int) then (clocheref09_Same.l1 k x0 x1 x5 0) else (some false)) else (none)) else (none)) else (some true)
def clocheref09_Same.l1 : Nat → List (List Int) → List (List Int) → Int → Int → Option (Bool)
 | 0, _, _, _, _ => none
 | k + 1, x0, x1, x5, x6 => if 0 ≤ x5 then (if x5 < (x0.length : Int) then (if x6 < ((rd_L1 x0 x5).length : Int) then (if 0 ≤ x6 then (if x5 < (x1.length : Int) then (if x6 < ((rd_L1 x1 x5).length : Int) then (if (rd (rd_L1 x0 x5) x6) = (rd (rd_L1 x1 x5) x6) then (clocheref09_Same.l1 k x0 x1 x5 (wrap64 (x6 + 1))) else (some false)) else (none)) else (none)) else (none)) else (clocheref09_Same.l0 k x0 x1 (wrap64 (x5 + 1)))) else (none)) else (none)
end
def clocheref09_Same.f (k : Nat) (l0 : List (List Int)) (l1 : List (List Int)) : Option (Bool) := if (l0.length : Int) = (l1.length : Int) then (clocheref09_Same.l0 k l0 l1 0) else (some false)
theorem clocheref09_Same.mono_l : ∀ k, (∀ y0 y1 y2, LeO (clocheref09_Same.l0 k y0 y1 y2) (clocheref09_Same.l0 (k + 1) y0 y1 y2)) ∧ (∀ y0 y1 y2 y3, LeO (clocheref09_Same.l1 k y0 y1 y2 y3) (clocheref09_Same.l1 (k + 1) y0 y1 y2 y3))
 | 0 => ⟨fun _ _ _ r h => by simp [clocheref09_Same.l0] at h, fun _ _ _ _ r h => by simp [clocheref09_Same.l1] at h⟩
 | k + 1 => by
  obtain ⟨ih0, ih1⟩ := clocheref09_Same.mono_l k
  refine ⟨?_, ?_⟩
  · intro y0 y1 y2
    unfold clocheref09_Same.l0
    repeat' first
    | (with_reducible exact ih0 _ _ _)
    | (with_reducible exact ih1 _ _ _ _)
    | (with_reducible exact LeO.refl _)
    | (with_reducible exact LeO.none _)
    | (with_reducible refine LeO.ite ?_ ?_)
    | (with_reducible refine LeO.bind ?_ (fun _ => ?_))
    | exact ih0 _ _ _
    | exact ih1 _ _ _ _
    | exact LeO.none _
    | refine LeO.ite ?_ ?_
    | refine LeO.bind ?_ (fun _ => ?_)
  · intro y0 y1 y2 y3
    unfold clocheref09_Same.l1
    repeat' first
    | (with_reducible exact ih0 _ _ _)
    | (with_reducible exact ih1 _ _ _ _)
    | (with_reducible exact LeO.refl _)
    | (with_reducible exact LeO.none _)
    | (with_reducible refine LeO.ite ?_ ?_)
    | (with_reducible refine LeO.bind ?_ (fun _ => ?_))
    | exact ih0 _ _ _
    | exact ih1 _ _ _ _
    | exact LeO.none _
    | refine LeO.ite ?_ ?_
    | refine LeO.bind ?_ (fun _ => ?_)
theorem clocheref09_Same.mono : ∀ a0 a1 k, LeO (clocheref09_Same.f k a0 a1) (clocheref09_Same.f (k + 1) a0 a1) := by
 intro a0 a1 k
 obtain ⟨ih0, ih1⟩ := clocheref09_Same.mono_l k
 unfold clocheref09_Same.f
 repeat' first
  | (with_reducible exact ih0 _ _ _)
  | (with_reducible exact ih1 _ _ _ _)
  | (with_reducible exact LeO.refl _)
  | (with_reducible exact LeO.none _)
  | (with_reducible refine LeO.ite ?_ ?_)
  | (with_reducible refine LeO.bind ?_ (fun _ => ?_))
  | exact ih0 _ _ _
  | exact ih1 _ _ _ _
  | exact LeO.none _
  | refine LeO.ite ?_ ?_
  | refine LeO.bind ?_ (fun _ => ?_)
set_option maxHeartbeats 8000000 in
set_option maxRecDepth 100000 in
theorem clocheref09_Same.calls (k : Nat) (A0 : Option Addr) (c0 : Nat) (l0 : List (List Int)) (A1 : Option Addr) (c1 : Nat) (l1 : List (List Int)) (r : Bool) (w : World) (hr0 : Kd.C (Kd.slice 3 (Kd.int .i64)) w A0 l0.length l0) (hc0 : l0.length ≤ c0) (hr1 : Kd.C (Kd.slice 3 (Kd.int .i64)) w A1 l1.length l1) (hc1 : l1.length ≤ c1) (h : clocheref09_Same.f k l0 l1 = some r) :
 Calls Try.prog 14 #[.slice A0 l0.length c0, .slice A1 l1.length c1] w fun e w' => e = .returned (.bool r) ∧ Drawn0 w w' := by
 have HR0 := Aside0.mk hr0
 have HC0 := Aside0.mk hc0
 clear hr0 hc0
 have HR1 := Aside0.mk hr1
 have HC1 := Aside0.mk hc1
 clear hr1 hc1
 have H : (if (l0.length : Int) = (l1.length : Int) then (clocheref09_Same.l0 k l0 l1 0) else (some false)) = some r := h
 clear h
 by_cases c3 : (l0.length : Int) = (l1.length : Int)
 · rw [if_pos c3] at H
   have c3b0 : ((l0.length : Int) == (l1.length : Int)) = true := beq_iff_eq.mpr c3
   have c3b1 : ((l0.length : Int) != (l1.length : Int)) = false := bne_eq_false_iff_eq.mpr c3
   have c3b2 : (l0.length == l1.length) = true := by first | simpa using c3 | (simp at c3 ⊢; omega)
   clear c3
   have H' := Aside0.mk H
   clear H
   go_enter Try.func14, Try.ntmps14
   go_wp2
   repeat (go_quiet (fail); try go_wp2)
   go_loopg [5] k (fun kq v5 w' => ∃ (x5_1 : Int), v5 = .int .i64 x5_1 ∧ Aside0 (clocheref09_Same.l0 kq l0 l1 x5_1 = some r) ∧ Aside0 (kq ≤ k) ∧ Drawn0 w w')
   case atStart => exact ⟨(0), rf_, H', ⟨Nat.le_refl _⟩, dr_⟩
   case round =>
    clear H'
    try clear c1
    try clear p2
    try clear c3
    try clear c3b0
    try clear c3b1
    try clear c3b2
    obtain ⟨x5_1, rfl, HA, HK1, ⟨m1, rfl⟩⟩ := hrel
    cases gk with
    | zero => exact absurd HA.out (by simp [clocheref09_Same.l0])
    | succ k1 =>
     have H := HA.out
     clear HA
     simp only [clocheref09_Same.l0] at H
     by_cases c4 : x5_1 < (l0.length : Int)
     · rw [if_pos c4] at H
       have c4b0 : decide (x5_1 < (l0.length : Int)) = true := decide_eq_true c4
       clear c4
       by_cases c5 : 0 ≤ x5_1
       · rw [if_pos c5] at H
         have c5b0 : decide (0 ≤ x5_1) = true := decide_eq_true c5
         clear c5
         by_cases c6 : x5_1 < (l1.length : Int)
         · rw [if_pos c6] at H
           have c6b0 : decide (x5_1 < (l1.length : Int)) = true := decide_eq_true c6
           clear c6
           by_cases c7 : ((rd_L1 l0 x5_1).length : Int) = ((rd_L1 l1 x5_1).length : Int)
           · rw [if_pos c7] at H
             have c7b0 : (((rd_L1 l0 x5_1).length : Int) == ((rd_L1 l1 x5_1).length : Int)) = true := beq_iff_eq.mpr c7
             have c7b1 : (((rd_L1 l0 x5_1).length : Int) != ((rd_L1 l1 x5_1).length : Int)) = false := bne_eq_false_iff_eq.mpr c7
             have c7b2 : ((rd_L1 l0 x5_1).length == (rd_L1 l1 x5_1).length) = true := by first | simpa using c7 | (simp at c7 ⊢; omega)
             clear c7
             have H' := Aside0.mk H
             clear H
             obtain ⟨ad120, A120_0, c120_0, e120, hx120_0, HC120_0, HR120_0, p120, q120⟩ := al_ HR0.out x5_1
             cases e120
             obtain ⟨ad121, A121_0, c121_0, e121, hx121_0, HC121_0, HR121_0, p121, q121⟩ := al_ HR1.out x5_1
             cases e121
             go_wp2
             repeat (go_quiet (fail); try go_wp2)
             go_loopg [6] k1 (fun kq v6 w' => ∃ (x6_2 : Int), v6 = .int .i64 x6_2 ∧ Aside0 (clocheref09_Same.l1 kq l0 l1 x5_1 x6_2 = some r) ∧ Aside0 (kq ≤ k1) ∧ Drawn0 w w')
             case atStart => exact ⟨(0), rf_, H', ⟨Nat.le_refl _⟩, dr_⟩
             case round =>
              clear H'
              try clear c1
              try clear p1
              try clear q1
              try clear hx1
              try clear p2
              try clear c3
              try clear c3b0
              try clear c3b1
              try clear c3b2
              try clear c4
              try clear c4b0
              try clear c5
              try clear c5b0
              try clear c6
              try clear c6b0
              try clear c7
              try clear c7b0
              try clear c7b1
              try clear c7b2
              try clear hx120_0
              try clear hx121_0
              try clear p120
              try clear p121
              try clear p2
              try clear q120
              try clear q121
              obtain ⟨x6_2, rfl, HA, HK2, ⟨m2, rfl⟩⟩ := hrel
              cases gk with
              | zero => exact absurd HA.out (by simp [clocheref09_Same.l1])
              | succ k2 =>
               have H := HA.out
               clear HA
               simp only [clocheref09_Same.l1] at H
               by_cases c8 : 0 ≤ x5_1
               · rw [if_pos c8] at H
                 have c8b0 : decide (0 ≤ x5_1) = true := decide_eq_true c8
                 clear c8
                 by_cases c9 : x5_1 < (l0.length : Int)
                 · rw [if_pos c9] at H
                   have c9b0 : decide (x5_1 < (l0.length : Int)) = true := decide_eq_true c9
                   clear c9
                   by_cases c10 : x6_2 < ((rd_L1 l0 x5_1).length : Int)
                   · rw [if_pos c10] at H
                     have c10b0 : decide (x6_2 < ((rd_L1 l0 x5_1).length : Int)) = true := decide_eq_true c10
                     clear c10
                     by_cases c11 : 0 ≤ x6_2
                     · rw [if_pos c11] at H
                       have c11b0 : decide (0 ≤ x6_2) = true := decide_eq_true c11
                       clear c11
                       by_cases c12 : x5_1 < (l1.length : Int)
                       · rw [if_pos c12] at H
                         have c12b0 : decide (x5_1 < (l1.length : Int)) = true := decide_eq_true c12
                         clear c12
                         by_cases c13 : x6_2 < ((rd_L1 l1 x5_1).length : Int)
                         · rw [if_pos c13] at H
                           have c13b0 : decide (x6_2 < ((rd_L1 l1 x5_1).length : Int)) = true := decide_eq_true c13
                           clear c13
                           by_cases c14 : (rd (rd_L1 l0 x5_1) x6_2) = (rd (rd_L1 l1 x5_1) x6_2)
                           · rw [if_pos c14] at H
                             have c14b0 : ((rd (rd_L1 l0 x5_1) x6_2) == (rd (rd_L1 l1 x5_1) x6_2)) = true := beq_iff_eq.mpr c14
                             have c14b1 : ((rd (rd_L1 l0 x5_1) x6_2) != (rd (rd_L1 l1 x5_1) x6_2)) = false := bne_eq_false_iff_eq.mpr c14
                             clear c14
                             have H' := Aside0.mk H
                             clear H
                             obtain ⟨ad122, A122_0, c122_0, e122, hx122_0, HC122_0, HR122_0, p122, q122⟩ := al_ HR0.out x5_1
                             obtain rfl : ad120 = ad122 := (by injection e122)
                             obtain ⟨ad123, A123_0, c123_0, e123, hx123_0, HC123_0, HR123_0, p123, q123⟩ := al_ HR0.out x5_1
                             obtain rfl : ad120 = ad123 := (by injection e123)
                             have ea_ := Option.some.inj (hx122_0.symm.trans hx123_0)
                             injection ea_ with ea_ en_ ec_
                             subst ea_
                             subst ec_
                             clear en_
                             obtain ⟨ad124, e124, hx124_0, p124, q124⟩ := ai_ HR123_0.out x6_2
                             cases e124
                             obtain ⟨ad125, A125_0, c125_0, e125, hx125_0, HC125_0, HR125_0, p125, q125⟩ := al_ HR1.out x5_1
                             obtain rfl : ad121 = ad125 := (by injection e125)
                             obtain ⟨ad126, e126, hx126_0, p126, q126⟩ := ai_ HR125_0.out x6_2
                             cases e126
                             go_wp2
                             repeat (go_quiet (fail); try go_wp2)
                             go_roundg k2
                             case measure => have := HK1.out; have := HK2.out; omega
                             case rel => exact ⟨(wrap64 (x6_2 + 1)), rf_, H', ⟨by have := HK1.out; have := HK2.out; omega⟩, dr_⟩
                           · rw [if_neg c14] at H
                             have c14b0 : ((rd (rd_L1 l0 x5_1) x6_2) == (rd (rd_L1 l1 x5_1) x6_2)) = false := beq_eq_false_iff_ne.mpr c14
                             have c14b1 : ((rd (rd_L1 l0 x5_1) x6_2) != (rd (rd_L1 l1 x5_1) x6_2)) = true := bne_iff_ne.mpr c14
                             obtain rfl := Option.some.inj H
                             obtain ⟨ad122, A122_0, c122_0, e122, hx122_0, HC122_0, HR122_0, p122, q122⟩ := al_ HR0.out x5_1
                             obtain rfl : ad120 = ad122 := (by injection e122)
                             obtain ⟨ad123, A123_0, c123_0, e123, hx123_0, HC123_0, HR123_0, p123, q123⟩ := al_ HR0.out x5_1
                             obtain rfl : ad120 = ad123 := (by injection e123)
                             have ea_ := Option.some.inj (hx122_0.symm.trans hx123_0)
                             injection ea_ with ea_ en_ ec_
                             subst ea_
                             subst ec_
                             clear en_
                             obtain ⟨ad124, e124, hx124_0, p124, q124⟩ := ai_ HR123_0.out x6_2
                             cases e124
                             obtain ⟨ad125, A125_0, c125_0, e125, hx125_0, HC125_0, HR125_0, p125, q125⟩ := al_ HR1.out x5_1
                             obtain rfl : ad121 = ad125 := (by injection e125)
                             obtain ⟨ad126, e126, hx126_0, p126, q126⟩ := ai_ HR125_0.out x6_2
                             cases e126
                             go_wp2
                             repeat (go_quiet (fail); try go_wp2)
                             go_ret
                             exact ⟨rf_, dr_⟩
                         · rw [if_neg c13] at H
                           exact absurd H (by simp)
                       · rw [if_neg c12] at H
                         exact absurd H (by simp)
                     · rw [if_neg c11] at H
                       exact absurd H (by simp)
                   · rw [if_neg c10] at H
                     have c10b0 : decide (x6_2 < ((rd_L1 l0 x5_1).length : Int)) = false := decide_eq_false c10
                     clear c10
                     have H' := Aside0.mk H
                     clear H
                     obtain ⟨ad122, A122_0, c122_0, e122, hx122_0, HC122_0, HR122_0, p122, q122⟩ := al_ HR0.out x5_1
                     obtain rfl : ad120 = ad122 := (by injection e122)
                     go_wp2
                     repeat (go_quiet (fail); try go_wp2)
                     go_roundg k2
                     case measure => have := HK1.out; have := HK2.out; omega
                     case rel => exact ⟨(wrap64 (x5_1 + 1)), rf_, H', ⟨by have := HK1.out; have := HK2.out; omega⟩, dr_⟩
                 · rw [if_neg c9] at H
                   exact absurd H (by simp)
               · rw [if_neg c8] at H
                 exact absurd H (by simp)
           · rw [if_neg c7] at H
             have c7b0 : (((rd_L1 l0 x5_1).length : Int) == ((rd_L1 l1 x5_1).length : Int)) = false := beq_eq_false_iff_ne.mpr c7
             have c7b1 : (((rd_L1 l0 x5_1).length : Int) != ((rd_L1 l1 x5_1).length : Int)) = true := bne_iff_ne.mpr c7
             have c7b2 : ((rd_L1 l0 x5_1).length == (rd_L1 l1 x5_1).length) = false := by first | simpa using c7 | (simp at c7 ⊢; omega)
             obtain rfl := Option.some.inj H
             obtain ⟨ad120, A120_0, c120_0, e120, hx120_0, HC120_0, HR120_0, p120, q120⟩ := al_ HR0.out x5_1
             cases e120
             obtain ⟨ad121, A121_0, c121_0, e121, hx121_0, HC121_0, HR121_0, p121, q121⟩ := al_ HR1.out x5_1
             cases e121
             go_wp2
             repeat (go_quiet (fail); try go_wp2)
             go_ret
             exact ⟨rf_, dr_⟩
         · rw [if_neg c6] at H
           exact absurd H (by simp)
       · rw [if_neg c5] at H
         exact absurd H (by simp)
     · rw [if_neg c4] at H
       have c4b0 : decide (x5_1 < (l0.length : Int)) = false := decide_eq_false c4
       clear c4
       obtain rfl := Option.some.inj H
       go_wp2
       repeat (go_quiet (fail); try go_wp2)
       go_ret
       exact ⟨rf_, dr_⟩
 · rw [if_neg c3] at H
   have c3b0 : ((l0.length : Int) == (l1.length : Int)) = false := beq_eq_false_iff_ne.mpr c3
   have c3b1 : ((l0.length : Int) != (l1.length : Int)) = true := bne_iff_ne.mpr c3
   have c3b2 : (l0.length == l1.length) = false := by first | simpa using c3 | (simp at c3 ⊢; omega)
   obtain rfl := Option.some.inj H
   go_enter Try.func14, Try.ntmps14
   go_wp2
   repeat (go_quiet (fail); try go_wp2)
   go_ret
   exact ⟨rf_, dr_⟩

end Go.Proofs.Ytdinepghommchaa.V

/- Tables in the shape of a triangle: what From and fair let through; there are only so many. -/
namespace Go.Proofs.Ytdinepghommchaa.V
open Go.RowKit Go.Proofs.YtdinepghommchaaW.PrintWords Go.Proofs.YtdinepghommchaaW.PrintLast Go.Proofs.YtdinepghommchaaW.PrintMore
theorem all_split {α : Type} {P : α → Bool} (m : Nat) {l : List α} (h : (l.take m).all P = true) (k : (l.drop m).all P = true) : l.all P = true := by
 rw [← List.take_append_drop m l, List.all_append, h, k]
 rfl
def rowGood (n : Nat) (r : List Int) (j : Nat) : Prop := 1 ≤ r.getD j 0 ∧ r.getD j 0 ≤ (n : Int) ∧ (0 < j → r.getD (j - 1) 0 < r.getD j 0)
structure Shape (t : List (List Int)) : Prop where
 n1 : 1 ≤ t.length
 n5 : t.length ≤ 5
 rows : ∀ i, i < t.length → (t.getD i []).length = i + 1 ∧ ∀ j, j < i + 1 → rowGood t.length (t.getD i []) j
/-- The rows that a triangle can have. -/
def okAsc (p : List Int) : Bool :=
 match p.length with
 | m + 2 => decide (p.getD m 0 < p.getD (m + 1) 0)
 | _ => true
def rowT (n k : Nat) : List (List Int) := grow ((List.range n).map fun i : Nat => ((i + 1 : Nat) : Int)) okAsc k
def shp (n : Nat) : Nat → List (List (List Int))
 | 0 => [[]]
 | k + 1 => (shp n k).flatMap fun p => (rowT n (k + 1)).map fun r => p ++ [r]
/-- All that goes on from a beginning is good. -/
def subS (n : Nat) (P : List (List Int) → Bool) : Nat → Nat → List (List Int) → Bool
 | 0, _, p => P p
 | k + 1, m, p => (rowT n (m + 1)).all fun r => subS n P k (m + 1) (p ++ [r])
theorem rowT_mem {n : Nat} {r : List Int} (h : ∀ j, j < r.length → rowGood n r j) : r ∈ rowT n r.length := by
 have h1 : ∀ x ∈ r, x ∈ (List.range n).map fun i : Nat => ((i + 1 : Nat) : Int) := by
  intro x hx
  obtain ⟨i, hi, rfl⟩ := List.getElem_of_mem hx
  obtain ⟨a, b, _⟩ := h i hi
  rw [List.getD_eq_getElem?_getD, List.getElem?_eq_getElem hi] at a b
  simp only [Option.getD_some] at a b
  rw [List.mem_map]
  exact ⟨r[i].toNat - 1, List.mem_range.mpr (by omega), by omega⟩
 have tk : ∀ m i, i < m → (r.take m).getD i 0 = r.getD i 0 := fun m i hi => by
  rw [List.getD_eq_getElem?_getD, List.getElem?_take_of_lt hi, List.getD_eq_getElem?_getD]
 have := mem_grow (cands := (List.range n).map fun i : Nat => ((i + 1 : Nat) : Int)) (ok := okAsc) h1 (fun m hm => by
  unfold okAsc
  have hlen : (r.take m).length = m := by rw [List.length_take]; omega
  rw [hlen]
  match m, hm with
  | 0, _ => rfl
  | 1, _ => rfl
  | i + 2, hm =>
   dsimp only
   rw [tk (i + 2) i (by omega), tk (i + 2) (i + 1) (by omega), decide_eq_true_eq]
   exact (h (i + 1) (by omega)).2.2 (by omega)) r.length (Nat.le_refl _)
 rwa [List.take_length] at this
theorem Shape.mem {t : List (List Int)} (h : Shape t) : t ∈ shp t.length t.length := by
 have : ∀ m, m ≤ t.length → t.take m ∈ shp t.length m := by
  intro m
  induction m with
  | zero => intro _; simp [shp]
  | succ m ih =>
   intro hm
   have hlt : m < t.length := by omega
   have e : t.getD m [] = t[m] := by simp [List.getD_eq_getElem?_getD, List.getElem?_eq_getElem hlt]
   obtain ⟨h1, h2⟩ := h.rows m hlt
   have hr := rowT_mem (n := t.length) (r := t.getD m []) (fun j hj => h2 j (by omega))
   rw [h1] at hr
   rw [List.take_add_one, List.getElem?_eq_getElem hlt]
   simp only [shp, List.mem_flatMap, List.mem_map]
   exact ⟨_, ih (by omega), _, hr, by rw [e]; rfl⟩
 have := this t.length (Nat.le_refl _)
 rwa [List.take_length] at this
end Go.Proofs.Ytdinepghommchaa.V
