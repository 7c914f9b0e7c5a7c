/- The walks, their words and the pure laws under the claim of VeilsSteep, part: Hs, Vf98, Vf49, Vf28. -/
import Derived.Test.YtdinepghommchaaCVeilsSteep3
import Derived.Test.YtdinepghommchaaCVeilsSteep4
import Derived.Test.YtdinepghommchaaCVeilsSteep5
import Derived.Test.YtdinepghommchaaCVeilsSteep1
/- Tables in the shape of heights: what Of and steep let through; there are only so many. -/
namespace Go.Proofs.Ytdinepghommchaa.V
open Go.RowKit Go.Proofs.YtdinepghommchaaW.PrintWords Go.Proofs.YtdinepghommchaaW.PrintLast Go.Proofs.YtdinepghommchaaW.PrintMore
/-- A number of a table is what it has to be in heights. -/
structure GoodH (n : Nat) (t : List (List Int)) (i j : Nat) : Prop where
  top : i = 0 → at2 t i j = j
  left : j = 0 → at2 t i j = i
  bottom : i = n → at2 t i j = (n : Int) - j
  right : j = n → at2 t i j = (n : Int) - i
  up : 0 < i → at2 t i j = at2 t (i - 1) j + 1 ∨ at2 t i j = at2 t (i - 1) j - 1
  side : 0 < j → at2 t i j = at2 t i (j - 1) + 1 ∨ at2 t i j = at2 t i (j - 1) - 1
structure ShapeH (t : List (List Int)) : Prop where
  n1 : 2 ≤ t.length
  n5 : t.length ≤ 6
  len : ∀ i, i < t.length → (t.getD i []).length = t.length
  good : ∀ i, i < t.length → ∀ j, j < t.length → GoodH (t.length - 1) t i j
theorem left_if {β : Type} {n j : Nat} {r : List Int} {x : Int} {N E Z : Option β} (hr : r.length = n + 1) (hj : j ≤ n) (hn : n ≤ 20) (hb : 0 < j → -50 ≤ r.getD (j - 1) 0 ∧ r.getD (j - 1) 0 ≤ 50) :
    (if (j : Int) > 0 then (if 0 ≤ (wrap64 ((j : Int) - 1)) then (if (wrap64 ((j : Int) - 1)) < (r.length : Int) then (if x = (wrap64 ((rd r (wrap64 ((j : Int) - 1))) + 1)) then N else (if x = (wrap64 ((rd r (wrap64 ((j : Int) - 1))) - 1)) then N else E)) else Z) else Z) else N) =
    if 0 < j ∧ x ≠ r.getD (j - 1) 0 + 1 ∧ x ≠ r.getD (j - 1) 0 - 1 then E else N := by
  by_cases c : (j : Int) > 0
  · have e : wrap64 ((j : Int) - 1) = ((j - 1 : Nat) : Int) := by rw [wr _ (by omega)]; omega
    have b := hb (by omega)
    rw [if_pos c, e, if_pos (by omega), if_pos (by omega), rd_cast, wr _ (by omega), wr _ (by omega)]
    by_cases c1 : x = r.getD (j - 1) 0 + 1
    · rw [if_pos c1, if_neg (by omega)]
    · rw [if_neg c1]
      by_cases c2 : x = r.getD (j - 1) 0 - 1
      · rw [if_pos c2, if_neg (by omega)]
      · rw [if_neg c2, if_pos ⟨by omega, c1, c2⟩]
  · rw [if_neg c, if_neg (by omega)]
theorem of_step (t : List (List Int)) (n i j k : Nat) (hn : n ≤ 20) (ht : t.length = n + 1) (hi : i ≤ n) (hj : j ≤ n) (hr : (t.getD i []).length = n + 1) (hu : 0 < i → (t.getD (i - 1) []).length = n + 1 ∧ -50 ≤ at2 t (i - 1) j ∧ at2 t (i - 1) j ≤ 50)
    (hl : 0 < j → -50 ≤ at2 t i (j - 1) ∧ at2 t i (j - 1) ≤ 50) :
    veils_Of.l1 (k + 1) t n i (t.getD i []) t t.length i (t.getD i []) (t.getD i []).length j =
    if edgeB n i j (at2 t i j) = true ∨ (0 < i ∧ at2 t i j ≠ at2 t (i - 1) j + 1 ∧ at2 t i j ≠ at2 t (i - 1) j - 1) ∨ (0 < j ∧ at2 t i j ≠ at2 t i (j - 1) + 1 ∧ at2 t i j ≠ at2 t i (j - 1) - 1) then some ([], 2)
    else veils_Of.l1 k t n i (t.getD i []) t t.length i (t.getD i []) (t.getD i []).length (j + 1 : Nat) := by
  rw [veils_Of.l1, if_pos (by omega), if_pos (by omega), if_pos (by omega), left_if hr hj hn hl, rd_cast (t.getD i []) j, wr_succ j (by omega)]
  show (if edgeB n i j (at2 t i j) = true then _ else _) = _
  by_cases cE : edgeB n i j (at2 t i j) = true
  · rw [if_pos cE, if_pos (.inl cE)]
  rw [if_neg cE]
  have eL : (t.getD i []).getD (j - 1) 0 = at2 t i (j - 1) := rfl
  have eX : (t.getD i []).getD j 0 = at2 t i j := rfl
  rw [eL, eX]
  by_cases cL : 0 < j ∧ at2 t i j ≠ at2 t i (j - 1) + 1 ∧ at2 t i j ≠ at2 t i (j - 1) - 1
  · have hC : edgeB n i j (at2 t i j) = true ∨ (0 < i ∧ at2 t i j ≠ at2 t (i - 1) j + 1 ∧ at2 t i j ≠ at2 t (i - 1) j - 1) ∨ (0 < j ∧ at2 t i j ≠ at2 t i (j - 1) + 1 ∧ at2 t i j ≠ at2 t i (j - 1) - 1) := .inr (.inr cL)
    rw [if_pos hC, if_pos cL]
    by_cases c : (i : Int) > 0
    · have e : wrap64 ((i : Int) - 1) = ((i - 1 : Nat) : Int) := by rw [wr _ (by omega)]; omega
      obtain ⟨h1, h2⟩ := hu (by omega)
      rw [if_pos c, e, if_pos (by omega), if_pos (by omega), rdL1_cast, if_pos (by omega)]
      simp only [ite_self]
    · rw [if_neg c]
  · rw [if_neg cL]
    by_cases c : (i : Int) > 0
    · have e : wrap64 ((i : Int) - 1) = ((i - 1 : Nat) : Int) := by rw [wr _ (by omega)]; omega
      obtain ⟨h1, h2⟩ := hu (by omega)
      have eU : (t.getD (i - 1) []).getD j 0 = at2 t (i - 1) j := rfl
      rw [if_pos c, e, if_pos (by omega), if_pos (by omega), rdL1_cast, if_pos (by omega), rd_cast, eU, wr _ (by omega), wr _ (by omega)]
      by_cases u1 : at2 t i j = at2 t (i - 1) j + 1
      · rw [if_pos u1, if_neg (fun h => by rcases h with h | h | h; exact cE h; exact h.2.1 u1; exact cL h)]
      · rw [if_neg u1]
        by_cases u2 : at2 t i j = at2 t (i - 1) j - 1
        · rw [if_pos u2, if_neg (fun h => by rcases h with h | h | h; exact cE h; exact h.2.2 u2; exact cL h)]
        · rw [if_neg u2, if_pos (.inr (.inl ⟨by omega, u1, u2⟩))]
    · rw [if_neg c, if_neg (fun h => by rcases h with h | h | h; exact cE h; exact c (by omega); exact cL h)]
def Bd (t : List (List Int)) (i j : Nat) : Prop := -(5 + (j : Int)) ≤ at2 t i j ∧ at2 t i j ≤ 5 + (j : Int)
theorem of_l1 (t : List (List Int)) (n i : Nat) (hn : n ≤ 5) (ht : t.length = n + 1) (hi : i ≤ n) (hr : (t.getD i []).length = n + 1) (hu : 0 < i → (t.getD (i - 1) []).length = n + 1 ∧ ∀ j, j < n + 1 → Bd t (i - 1) j) : ∀ d k j, j + d = n + 1 →
    (0 < j → Bd t i (j - 1)) →
    veils_Of.l1 (k + d + 1) t n i (t.getD i []) t t.length i (t.getD i []) (t.getD i []).length j = some ([], 2) ∨
    ((∀ m, j ≤ m → m < n + 1 → GoodH n t i m ∧ Bd t i m) ∧ veils_Of.l1 (k + d + 1) t n i (t.getD i []) t t.length i (t.getD i []) (t.getD i []).length j = veils_Of.l0 k t n t t.length (i + 1 : Nat))
  | 0, k, j, h, _ => by
    right
    refine ⟨fun m h1 h2 => by omega, ?_⟩
    rw [Nat.add_zero, veils_Of.l1, if_neg (by omega), wr_succ i (by omega)]
  | d + 1, k, j, h, hb => by
    rw [show k + (d + 1) + 1 = (k + d + 1) + 1 from rfl, of_step t n i j (k + d + 1) (by omega) ht hi (by omega) hr (fun h0 => ⟨(hu h0).1, by have := (hu h0).2 j (by omega); unfold Bd at this; omega⟩) (fun h0 => by have := hb h0; unfold Bd at this; omega)]
    by_cases c : edgeB n i j (at2 t i j) = true ∨ (0 < i ∧ at2 t i j ≠ at2 t (i - 1) j + 1 ∧ at2 t i j ≠ at2 t (i - 1) j - 1) ∨ (0 < j ∧ at2 t i j ≠ at2 t i (j - 1) + 1 ∧ at2 t i j ≠ at2 t i (j - 1) - 1)
    · left; rw [if_pos c]
    rw [if_neg c]
    have hE : edgeB n i j (at2 t i j) ≠ true := fun h => c (.inl h)
    unfold edgeB at hE
    rw [wr _ (by omega), wr _ (by omega)] at hE
    have hE := fun h => hE (decide_eq_true h)
    have g : GoodH n t i j := ⟨fun h0 => Decidable.byContradiction fun hx => hE (.inl ⟨by omega, hx⟩), fun h0 => Decidable.byContradiction fun hx => hE (.inr (.inl ⟨by omega, hx⟩)),
      fun h0 => Decidable.byContradiction fun hx => hE (.inr (.inr (.inl ⟨by omega, hx⟩))), fun h0 => Decidable.byContradiction fun hx => hE (.inr (.inr (.inr ⟨by omega, hx⟩))),
      fun h0 => Decidable.byContradiction fun hx => c (.inr (.inl ⟨h0, by omega, by omega⟩)), fun h0 => Decidable.byContradiction fun hx => c (.inr (.inr ⟨h0, by omega, by omega⟩))⟩
    have b : Bd t i j := by
      unfold Bd
      by_cases h0 : 0 < j
      · have := hb h0
        unfold Bd at this
        have := g.side h0
        omega
      · have := g.left (by omega)
        omega
    rcases of_l1 t n i hn ht hi hr hu d k (j + 1) (by omega) (fun _ => b) with ih | ⟨ih1, ih2⟩
    · left; exact ih
    · right
      refine ⟨fun m h1 h2 => ?_, ih2⟩
      by_cases e : m = j
      · subst e; exact ⟨g, b⟩
      · exact ih1 m (by omega) h2
theorem of_l0 (t : List (List Int)) (n : Nat) (hn : n ≤ 5) (ht : t.length = n + 1) : ∀ d k i, i + d = n + 1 →
    (0 < i → (t.getD (i - 1) []).length = n + 1 ∧ ∀ j, j < n + 1 → Bd t (i - 1) j) →
    veils_Of.l0 (k + d * (n + 3) + 1) t n t t.length i = some ([], 2) ∨ ∀ m, i ≤ m → m < n + 1 → (t.getD m []).length = n + 1 ∧ ∀ j, j < n + 1 → GoodH n t m j
  | 0, k, i, h, _ => .inr fun m a b => by omega
  | d + 1, k, i, h, hu => by
    rw [show k + (d + 1) * (n + 3) + 1 = (k + d * (n + 3) + 1 + (n + 1) + 1) + 1 by rw [Nat.succ_mul]; omega, veils_Of.l0, if_pos (by omega), if_pos (by omega), if_pos (by omega), rdL1_cast, wr_succ n (by omega)]
    by_cases c : (((t.getD i []).length : Nat) : Int) = ((n + 1 : Nat) : Int)
    · rw [if_pos c]
      have hl : (t.getD i []).length = n + 1 := by omega
      rcases of_l1 t n i hn ht (by omega) hl hu (n + 1) (k + d * (n + 3) + 1) 0 (by omega) (fun h0 => by omega) with h1 | ⟨h1, h2⟩
      · left; exact h1
      · rw [show ((0 : Nat) : Int) = 0 from rfl] at h2
        rw [h2]
        rcases of_l0 t n hn ht d k (i + 1) (by omega) (fun _ => ⟨hl, fun j hj => (h1 j (by omega) hj).2⟩) with ih | ih
        · left; exact ih
        · right
          intro m a b
          by_cases e : m = i
          · subst e; exact ⟨hl, fun j hj => (h1 j (by omega) hj).1⟩
          · exact ih m (by omega) b
    · left; rw [if_neg c]
theorem of_spec (t : List (List Int)) (hl : t.length ≤ 500) : veils_Of.f 200 t = some ([], 2) ∨ ShapeH t := by
  unfold veils_Of.f
  rw [wr ((t.length : Int) - 1) (by omega)]
  by_cases c1 : (t.length : Int) - 1 < 1
  · left; rw [if_pos c1, veils_Of.j0, if_pos rfl]
  rw [if_neg c1]
  by_cases c2 : (t.length : Int) - 1 > 5
  · left; rw [decide_eq_true c2, veils_Of.j0, if_pos rfl]
  rw [decide_eq_false c2, veils_Of.j0, if_neg (by decide)]
  obtain ⟨n, hn⟩ : ∃ n, t.length = n + 1 := ⟨t.length - 1, by omega⟩
  have e : (t.length : Int) - 1 = (n : Int) := by omega
  rw [e]
  have h7 : (n + 1) * (n + 3) ≤ 6 * 8 := Nat.mul_le_mul (by omega) (by omega)
  rcases of_l0 t n (by omega) hn (n + 1) (198 - (n + 1) * (n + 3)) 0 (by omega) (fun h0 => by omega) with h | h
  · left
    rw [show 198 - (n + 1) * (n + 3) + (n + 1) * (n + 3) + 1 = 199 by omega] at h
    exact h
  · right
    refine ⟨by omega, by omega, fun i hi => by have := (h i (by omega) (by omega)).1; omega, fun i hi j hj => ?_⟩
    rw [hn, Nat.add_sub_cancel]
    exact (h i (by omega) (by omega)).2 j (by omega)
theorem steep_l1 (t : List (List Int)) (n i : Nat) (hn : n ≤ 5) (ht : t.length = n + 1) (hi : i ≤ n) (hr : (t.getD i []).length = n + 1) : ∀ d k j, j + d = n + 1 →
    clochelaw09_steep.l1 (k + d + 1) t n i j = some false ∨ ((∀ m, j ≤ m → m < n + 1 → 0 ≤ at2 t i m ∧ at2 t i m ≤ (n : Int)) ∧ clochelaw09_steep.l1 (k + d + 1) t n i j = clochelaw09_steep.l0 k t n (i + 1 : Nat))
  | 0, k, j, h => by
    right
    refine ⟨fun m h1 h2 => by omega, ?_⟩
    rw [Nat.add_zero, clochelaw09_steep.l1, if_neg (by omega), wr_succ i (by omega)]
  | d + 1, k, j, h => by
    rw [show k + (d + 1) + 1 = (k + d + 1) + 1 from rfl, clochelaw09_steep.l1, if_pos (by omega), if_pos (by omega), if_pos (by omega), if_pos (by omega), rdL1_cast, if_pos (by omega), rd_cast]
    by_cases c1 : (t.getD i []).getD j 0 < 0
    · left; rw [if_pos c1]
    rw [if_neg c1]
    by_cases c2 : (t.getD i []).getD j 0 > (n : Int)
    · left; rw [if_pos c2]
    rw [if_neg c2, wr_succ j (by omega)]
    rcases steep_l1 t n i hn ht hi hr d k (j + 1) (by omega) with ih | ⟨ih1, ih2⟩
    · left; exact ih
    · right
      refine ⟨fun m h1 h2 => ?_, ih2⟩
      by_cases e : m = j
      · subst e; unfold at2; omega
      · exact ih1 m (by omega) h2
theorem steep_l0 (t : List (List Int)) (n : Nat) (hn : n ≤ 5) (ht : t.length = n + 1) : ∀ d k i, i + d = n + 1 →
    clochelaw09_steep.l0 (k + d * (n + 3) + 1) t n i = some false ∨
    ((∀ m, i ≤ m → m < n + 1 → (t.getD m []).length = n + 1 ∧ ∀ j, j < n + 1 → 0 ≤ at2 t m j ∧ at2 t m j ≤ (n : Int)) ∧ clochelaw09_steep.l0 (k + d * (n + 3) + 1) t n i = clochelaw09_steep.l2 k t n 0)
  | 0, k, i, h => by
    right
    refine ⟨fun m a b => by omega, ?_⟩
    rw [show k + 0 * (n + 3) + 1 = k + 1 by omega, clochelaw09_steep.l0, if_neg (by omega)]
  | d + 1, k, i, h => by
    rw [show k + (d + 1) * (n + 3) + 1 = (k + d * (n + 3) + 1 + (n + 1) + 1) + 1 by rw [Nat.succ_mul]; omega, clochelaw09_steep.l0, if_pos (by omega), if_pos (by omega), if_pos (by omega), rdL1_cast, wr_succ n (by omega)]
    by_cases c : (((t.getD i []).length : Nat) : Int) = ((n + 1 : Nat) : Int)
    · rw [if_pos c]
      have hl : (t.getD i []).length = n + 1 := by omega
      rcases steep_l1 t n i hn ht (by omega) hl (n + 1) (k + d * (n + 3) + 1) 0 (by omega) with h1 | ⟨h1, h2⟩
      · left; exact h1
      · rw [show ((0 : Nat) : Int) = 0 from rfl] at h2
        rw [h2]
        rcases steep_l0 t n hn ht d k (i + 1) (by omega) with ih | ⟨ih1, ih2⟩
        · left; exact ih
        · right
          refine ⟨fun m a b => ?_, ih2⟩
          by_cases e : m = i
          · subst e; exact ⟨hl, fun j hj => h1 j (by omega) hj⟩
          · exact ih1 m (by omega) b
    · left; rw [if_neg c]
def By1 (a b : Int) : Prop := a = b + 1 ∨ a = b - 1
theorem steep_step (t : List (List Int)) (n i j k : Nat) (hn : n ≤ 5) (ht : t.length = n + 1) (hi : i ≤ n) (hj : j < n) (hr : ∀ i, i < n + 1 → (t.getD i []).length = n + 1) (hb : ∀ i, i < n + 1 → ∀ j, j < n + 1 → 0 ≤ at2 t i j ∧ at2 t i j ≤ (n : Int)) :
    clochelaw09_steep.l3 (k + 1) t n i j = some false ∨
    (By1 (at2 t i (j + 1)) (at2 t i j) ∧ By1 (at2 t (j + 1) i) (at2 t j i) ∧ clochelaw09_steep.l3 (k + 1) t n i j = clochelaw09_steep.l3 k t n i (j + 1 : Nat)) := by
  have r1 := hr i (by omega)
  have r2 := hr j (by omega)
  have r3 := hr (j + 1) (by omega)
  have b1 := hb i (by omega) (j + 1) (by omega)
  have b2 := hb i (by omega) j (by omega)
  have b3 := hb (j + 1) (by omega) i (by omega)
  have b4 := hb j (by omega) i (by omega)
  have e1 : (t.getD i []).getD (j + 1) 0 = at2 t i (j + 1) := rfl
  have e2 : (t.getD i []).getD j 0 = at2 t i j := rfl
  have e3 : (t.getD (j + 1) []).getD i 0 = at2 t (j + 1) i := rfl
  have e4 : (t.getD j []).getD i 0 = at2 t j i := rfl
  rw [clochelaw09_steep.l3, wr_succ j (by omega), if_pos (by omega), if_pos (by omega), if_pos (by omega), if_pos (by omega), rdL1_cast, rdL1_cast, rdL1_cast, if_pos (by omega), if_pos (by omega), if_pos (by omega), rd_cast, rd_cast, rd_cast, rd_cast, e1, e2, e3, e4]
  rw [wr (at2 t i (j + 1) - at2 t i j) (by omega), wr (at2 t (j + 1) i - at2 t j i) (by omega)]
  by_cases c1 : at2 t i (j + 1) - at2 t i j = 1
  · rw [if_pos c1, if_pos (by omega), if_pos (by omega), if_pos (by omega), if_pos (by omega)]
    by_cases c2 : at2 t (j + 1) i - at2 t j i = 1
    · rw [if_pos c2]; right; exact ⟨.inl (by omega), .inl (by omega), rfl⟩
    · rw [if_neg c2]
      by_cases c3 : at2 t (j + 1) i - at2 t j i = -1
      · rw [if_pos c3]; right; exact ⟨.inl (by omega), .inr (by omega), rfl⟩
      · rw [if_neg c3]; left; rfl
  · rw [if_neg c1]
    by_cases c0 : at2 t i (j + 1) - at2 t i j = -1
    · rw [if_pos c0, if_pos (by omega), if_pos (by omega), if_pos (by omega), if_pos (by omega)]
      by_cases c2 : at2 t (j + 1) i - at2 t j i = 1
      · rw [if_pos c2]; right; exact ⟨.inr (by omega), .inl (by omega), rfl⟩
      · rw [if_neg c2]
        by_cases c3 : at2 t (j + 1) i - at2 t j i = -1
        · rw [if_pos c3]; right; exact ⟨.inr (by omega), .inr (by omega), rfl⟩
        · rw [if_neg c3]; left; rfl
    · rw [if_neg c0]; left; rfl
theorem steep_l3 (t : List (List Int)) (n i : Nat) (hn : n ≤ 5) (ht : t.length = n + 1) (hi : i ≤ n) (hr : ∀ i, i < n + 1 → (t.getD i []).length = n + 1) (hb : ∀ i, i < n + 1 → ∀ j, j < n + 1 → 0 ≤ at2 t i j ∧ at2 t i j ≤ (n : Int)) : ∀ d k j, j + d = n →
    clochelaw09_steep.l3 (k + d + 1) t n i j = some false ∨ ((∀ m, j ≤ m → m < n → By1 (at2 t i (m + 1)) (at2 t i m) ∧ By1 (at2 t (m + 1) i) (at2 t m i)) ∧ clochelaw09_steep.l3 (k + d + 1) t n i j = clochelaw09_steep.l2 k t n (i + 1 : Nat))
  | 0, k, j, h => by
    right
    refine ⟨fun m a b => by omega, ?_⟩
    rw [Nat.add_zero, clochelaw09_steep.l3, if_neg (by omega), wr_succ i (by omega)]
  | d + 1, k, j, h => by
    rw [show k + (d + 1) + 1 = (k + d + 1) + 1 from rfl]
    rcases steep_step t n i j (k + d + 1) hn ht hi (by omega) hr hb with h0 | ⟨h1, h2, h0⟩
    · left; exact h0
    · rw [h0]
      rcases steep_l3 t n i hn ht hi hr hb d k (j + 1) (by omega) with ih | ⟨ih1, ih2⟩
      · left; exact ih
      · right
        refine ⟨fun m a b => ?_, ih2⟩
        by_cases e : m = j
        · subst e; exact ⟨h1, h2⟩
        · exact ih1 m (by omega) b
theorem steep_border (t : List (List Int)) (n i k : Nat) (hn : n ≤ 5) (ht : t.length = n + 1) (hi : i ≤ n) (hr : ∀ i, i < n + 1 → (t.getD i []).length = n + 1) :
    clochelaw09_steep.l2 (k + 2) t n i = some false ∨
    ((at2 t 0 i = i ∧ at2 t i 0 = i ∧ at2 t n i = (n : Int) - i ∧ at2 t i n = (n : Int) - i) ∧ clochelaw09_steep.l2 (k + 2) t n i = clochelaw09_steep.l3 k t n i 0) := by
  have r1 := hr i (by omega)
  have r2 := hr 0 (by omega)
  have r3 := hr n (by omega)
  have e1 : (t.getD 0 []).getD i 0 = at2 t 0 i := rfl
  have e2 : (t.getD i []).getD 0 0 = at2 t i 0 := rfl
  have e3 : (t.getD n []).getD i 0 = at2 t n i := rfl
  have e4 : (t.getD i []).getD n 0 = at2 t i n := rfl
  have z1 : rd_L1 t 0 = t.getD 0 [] := rdL1_cast t 0
  have z2 : rd (t.getD i []) 0 = (t.getD i []).getD 0 0 := rd_cast (t.getD i []) 0
  have jf : clochelaw09_steep.j4 (k + 1) t n i true = some false := by rw [clochelaw09_steep.j4, if_pos rfl]
  rw [clochelaw09_steep.l2, wr ((n : Int) - i) (by omega), if_pos (by omega), if_pos (by omega), if_pos (by omega), z1, if_pos (by omega), rd_cast, e1]
  by_cases c1 : at2 t 0 i = i
  · rw [if_pos c1, if_pos (by omega), rdL1_cast, if_pos (by omega), z2, e2]
    by_cases c2 : at2 t i 0 = i
    · rw [if_pos c2, if_pos (by omega), if_pos (by omega), rdL1_cast, if_pos (by omega), rd_cast, e3]
      by_cases c3 : at2 t n i = (n : Int) - i
      · rw [if_pos c3, if_pos (by omega), rd_cast, e4]
        by_cases c4 : at2 t i n = (n : Int) - i
        · right
          refine ⟨⟨c1, c2, c3, c4⟩, ?_⟩
          rw [bne_eq_false_iff_eq.mpr c4, clochelaw09_steep.j4, if_neg (by decide)]
        · left
          rw [bne_iff_ne.mpr c4]
          exact jf
      · rw [if_neg c3]; left; exact jf
    · rw [if_neg c2]; left; exact jf
  · rw [if_neg c1]; left; exact jf
theorem steep_l2 (t : List (List Int)) (n : Nat) (hn : n ≤ 5) (ht : t.length = n + 1) (hr : ∀ i, i < n + 1 → (t.getD i []).length = n + 1) (hb : ∀ i, i < n + 1 → ∀ j, j < n + 1 → 0 ≤ at2 t i j ∧ at2 t i j ≤ (n : Int)) : ∀ d k i, i + d = n + 1 →
    clochelaw09_steep.l2 (k + d * (n + 3) + 1) t n i = some false ∨
    ∀ m, i ≤ m → m < n + 1 → (at2 t 0 m = m ∧ at2 t m 0 = m ∧ at2 t n m = (n : Int) - m ∧ at2 t m n = (n : Int) - m) ∧ ∀ j, j < n → By1 (at2 t m (j + 1)) (at2 t m j) ∧ By1 (at2 t (j + 1) m) (at2 t j m)
  | 0, k, i, h => .inr fun m a b => by omega
  | d + 1, k, i, h => by
    rw [show k + (d + 1) * (n + 3) + 1 = (k + d * (n + 3) + 1 + n + 1) + 2 by rw [Nat.succ_mul]; omega]
    rcases steep_border t n i (k + d * (n + 3) + 1 + n + 1) hn ht (by omega) hr with h0 | ⟨h1, h0⟩
    · left; exact h0
    rw [h0]
    rcases steep_l3 t n i hn ht (by omega) hr hb n (k + d * (n + 3) + 1) 0 (by omega) with h3 | ⟨h3, h4⟩
    · left; exact h3
    rw [show ((0 : Nat) : Int) = 0 from rfl] at h4
    rw [h4]
    rcases steep_l2 t n hn ht hr hb d k (i + 1) (by omega) with ih | ih
    · left; exact ih
    · right
      intro m a b
      by_cases e : m = i
      · subst e; exact ⟨h1, fun j hj => h3 j (by omega) hj⟩
      · exact ih m (by omega) b
theorem steep_spec (t : List (List Int)) (hl : t.length ≤ 500) : clochelaw09_steep.f 200 t = some false ∨ ShapeH t := by
  unfold clochelaw09_steep.f
  rw [wr ((t.length : Int) - 1) (by omega)]
  by_cases c1 : (t.length : Int) - 1 < 1
  · left; rw [if_pos c1, clochelaw09_steep.j0, if_pos rfl]
  rw [if_neg c1]
  by_cases c2 : (t.length : Int) - 1 > 5
  · left; rw [decide_eq_true c2, clochelaw09_steep.j0, if_pos rfl]
  rw [decide_eq_false c2, clochelaw09_steep.j0, if_neg (by decide)]
  obtain ⟨n, hn⟩ : ∃ n, t.length = n + 1 := ⟨t.length - 1, by omega⟩
  have e : (t.length : Int) - 1 = (n : Int) := by omega
  rw [e]
  have h7 : (n + 1) * (n + 3) ≤ 6 * 8 := Nat.mul_le_mul (by omega) (by omega)
  rcases steep_l0 t n (by omega) hn (n + 1) (198 - (n + 1) * (n + 3)) 0 (by omega) with h | ⟨h, h0⟩
  · left
    rw [show 198 - (n + 1) * (n + 3) + (n + 1) * (n + 3) + 1 = 199 by omega] at h
    exact h
  rw [show 198 - (n + 1) * (n + 3) + (n + 1) * (n + 3) + 1 = 199 by omega, show ((0 : Nat) : Int) = 0 from rfl] at h0
  rw [h0]
  rcases steep_l2 t n (by omega) hn (fun i hi => (h i (by omega) hi).1) (fun i hi => (h i (by omega) hi).2) (n + 1) (198 - (n + 1) * (n + 3) - (n + 1) * (n + 3) - 1) 0 (by omega) with h2 | h2
  · left
    rw [show 198 - (n + 1) * (n + 3) - (n + 1) * (n + 3) - 1 + (n + 1) * (n + 3) + 1 = 198 - (n + 1) * (n + 3) by omega] at h2
    exact h2
  · right
    refine ⟨by omega, by omega, fun i hi => by have := (h i (by omega) (by omega)).1; omega, fun i hi j hj => ?_⟩
    rw [hn, Nat.add_sub_cancel]
    obtain ⟨a1, a2⟩ := h2 i (by omega) (by omega)
    obtain ⟨b1, b2⟩ := h2 j (by omega) (by omega)
    refine ⟨fun h0 => by subst h0; exact b1.1, fun h0 => by subst h0; exact a1.2.1, fun h0 => by subst h0; exact b1.2.2.1, fun h0 => by subst h0; exact a1.2.2.2, fun h0 => ?_, fun h0 => ?_⟩
    · have := (b2 (i - 1) (by omega)).2
      rwa [show i - 1 + 1 = i by omega] at this
    · have := (a2 (j - 1) (by omega)).1
      rwa [show j - 1 + 1 = j by omega] at this
/-- The rows that heights can have. -/
def okStep (p : List Int) : Bool :=
  match p.length with
  | m + 2 => decide (p.getD (m + 1) 0 = p.getD m 0 + 1) || decide (p.getD (m + 1) 0 = p.getD m 0 - 1)
  | _ => true
def rowH (n i : Nat) : List (List Int) := (grow ((List.range (n + 1)).map fun i : Nat => (i : Int)) okStep (n + 1)).filter fun r => decide (r.getD 0 0 = (i : Int)) && decide (r.getD n 0 = (n : Int) - i) && (decide (0 < i) || (List.range (n + 1)).all fun j => decide (r.getD j 0 = (j : Int))) && (decide (i < n) || (List.range (n + 1)).all fun j => decide (r.getD j 0 = (n : Int) - j))
/-- A row fits the one above. -/
def okUp (n : Nat) (p : List (List Int)) (r : List Int) : Bool :=
  match p.length with
  | 0 => true
  | m + 1 => (List.range (n + 1)).all fun j => decide (r.getD j 0 = (p.getD m []).getD j 0 + 1) || decide (r.getD j 0 = (p.getD m []).getD j 0 - 1)
def hgt (n : Nat) : Nat → List (List (List Int))
  | 0 => [[]]
  | k + 1 => (hgt n k).flatMap fun p => ((rowH n k).filter (okUp n p)).map fun r => p ++ [r]
/-- All that goes on from a beginning is good. -/
def subH (n : Nat) (P : List (List Int) → Bool) : Nat → Nat → List (List Int) → Bool
  | 0, _, p => P p
  | k + 1, m, p => (rowH n m).all fun r => !okUp n p r || subH n P k (m + 1) (p ++ [r])
theorem hgt_sub {n : Nat} {P : List (List Int) → Bool} : ∀ (k m : Nat), (∀ p ∈ hgt n m, subH n P k m p = true) → ∀ q ∈ hgt n (m + k), P q = true
  | 0, m, h, q, hq => h q hq
  | k + 1, m, h, q, hq => by
    refine hgt_sub k (m + 1) (fun p' hp' => ?_) q (by rw [show m + 1 + k = m + (k + 1) by omega]; exact hq)
    simp only [hgt, List.mem_flatMap, List.mem_map, List.mem_filter] at hp'
    obtain ⟨p, hp, r, ⟨hr, ho⟩, rfl⟩ := hp'
    have := h p hp
    rw [subH, List.all_eq_true] at this
    have := this r hr
    rw [ho] at this
    simpa using this
theorem ShapeH.mem {t : List (List Int)} (h : ShapeH t) : t ∈ hgt (t.length - 1) t.length := by
  obtain ⟨n, hn⟩ : ∃ n, t.length = n + 1 := ⟨t.length - 1, by have := h.n1; omega⟩
  have g : ∀ i, i < n + 1 → ∀ j, j < n + 1 → GoodH n t i j := fun i hi j hj => by have := h.good i (by omega) j (by omega); rwa [hn, Nat.add_sub_cancel] at this
  have e0 : t.length - 1 = n := by omega
  rw [e0]
  -- the numbers are between 0 and n
  have lo : ∀ i, i < n + 1 → ∀ j, j < n + 1 → (i : Int) - j ≤ at2 t i j ∧ at2 t i j ≤ (i : Int) + j := by
    intro i hi j
    induction j with
    | zero => intro hj; have := (g i hi 0 hj).left rfl; omega
    | succ j ih =>
      intro hj
      have a := ih (by omega)
      have b := (g i hi (j + 1) hj).side (by omega)
      rw [Nat.add_sub_cancel] at b
      omega
  have hi' : ∀ i, i < n + 1 → ∀ d, d < n + 1 → at2 t i (n - d) ≤ (n : Int) - i + d ∧ (n : Int) - i - d ≤ at2 t i (n - d) := by
    intro i hi d
    induction d with
    | zero => intro _; have := (g i hi n (by omega)).right rfl; rw [Nat.sub_zero]; omega
    | succ d ih =>
      intro hd
      have a := ih (by omega)
      have b := (g i hi (n - d) (by omega)).side (by omega)
      rw [show n - d - 1 = n - (d + 1) by omega] at b
      omega
  have rng : ∀ i, i < n + 1 → ∀ j, j < n + 1 → 0 ≤ at2 t i j ∧ at2 t i j ≤ (n : Int) := by
    intro i hi j hj
    have a := lo i hi j hj
    have b := hi' i hi (n - j) (by omega)
    rw [show n - (n - j) = j by omega] at b
    have cI : ∀ i', i' < n + 1 → (j : Int) - i' ≤ at2 t i' j := by
      intro i'
      induction i' with
      | zero => intro h0; have := (g 0 h0 j hj).top rfl; omega
      | succ i' ih =>
        intro h0
        have a := ih (by omega)
        have b := (g (i' + 1) h0 j hj).up (by omega)
        rw [Nat.add_sub_cancel] at b
        omega
    have cD : ∀ d, d < n + 1 → at2 t (n - d) j ≤ (n : Int) - j + d := by
      intro d
      induction d with
      | zero => intro h0; have := (g n (by omega) j hj).bottom rfl; rw [Nat.sub_zero]; omega
      | succ d ih =>
        intro h0
        have a := ih (by omega)
        have b := (g (n - d) (by omega) j hj).up (by omega)
        rw [show n - d - 1 = n - (d + 1) by omega] at b
        omega
    have c1 := cI i hi
    have c2 := cD (n - i) (by omega)
    rw [show n - (n - i) = i by omega] at c2
    omega
  have row : ∀ i, i < n + 1 → t.getD i [] ∈ rowH n i := by
    intro i hi
    have hl : (t.getD i []).length = n + 1 := by have := h.len i (by omega); omega
    have h1 : ∀ x ∈ t.getD i [], x ∈ (List.range (n + 1)).map fun i : Nat => (i : Int) := by
      intro x hx
      obtain ⟨j, hj, e⟩ := List.getElem_of_mem hx
      have := rng i hi j (by omega)
      unfold at2 at this
      rw [List.getD_eq_getElem?_getD, List.getElem?_eq_getElem hj] at this
      simp only [Option.getD_some] at this
      rw [e] at this
      rw [List.mem_map]
      exact ⟨x.toNat, List.mem_range.mpr (by omega), by omega⟩
    have tk : ∀ m j, j < m → ((t.getD i []).take m).getD j 0 = at2 t i j := fun m j hj => by
      rw [List.getD_eq_getElem?_getD, List.getElem?_take_of_lt hj, ← List.getD_eq_getElem?_getD]; rfl
    have := mem_grow (cands := (List.range (n + 1)).map fun i : Nat => (i : Int)) (ok := okStep) h1 (fun m hm => by
      unfold okStep
      have hlen : ((t.getD i []).take m).length = m := by rw [List.length_take]; omega
      rw [hlen]
      match m, hm with
      | 0, _ => rfl
      | 1, _ => rfl
      | j + 2, hm =>
        dsimp only
        rw [tk (j + 2) j (by omega), tk (j + 2) (j + 1) (by omega)]
        have b := (g i hi (j + 1) (by omega)).side (by omega)
        rw [Nat.add_sub_cancel] at b
        simpa using b) (t.getD i []).length (Nat.le_refl _)
    rw [List.take_length, hl] at this
    unfold rowH
    refine List.mem_filter.mpr ⟨this, ?_⟩
    have a1 : (t.getD i []).getD 0 0 = (i : Int) := (g i hi 0 (by omega)).left rfl
    have a2 : (t.getD i []).getD n 0 = (n : Int) - i := (g i hi n (by omega)).right rfl
    simp only [Bool.and_eq_true, Bool.or_eq_true, decide_eq_true_eq, List.all_eq_true, List.mem_range]
    refine ⟨⟨⟨a1, a2⟩, ?_⟩, ?_⟩
    · by_cases c : 0 < i
      · exact .inl c
      · right
        intro j hj
        exact (g i hi j hj).top (by omega)
    · by_cases c : i < n
      · exact .inl c
      · right
        intro j hj
        exact (g i hi j hj).bottom (by omega)
  have : ∀ m, m ≤ t.length → t.take m ∈ hgt n m := by
    intro m
    induction m with
    | zero => intro _; simp [hgt]
    | succ m ih =>
      intro hm
      have hlt : m < t.length := by omega
      have e : t.getD m [] = t[m] := by simp [List.getD_eq_getElem?_getD, List.getElem?_eq_getElem hlt]
      rw [List.take_add_one, List.getElem?_eq_getElem hlt]
      simp only [hgt, List.mem_flatMap, List.mem_map, List.mem_filter]
      refine ⟨_, ih (by omega), t.getD m [], ⟨row m (by omega), ?_⟩, by rw [e]; rfl⟩
      unfold okUp
      have hlen : (t.take m).length = m := by rw [List.length_take]; omega
      rw [hlen]
      match m, hm with
      | 0, _ => rfl
      | m + 1, hm =>
        dsimp only
        rw [List.all_eq_true]
        intro j hj
        have hj' : j < n + 1 := List.mem_range.mp hj
        have b := (g (m + 1) (by omega) j hj').up (by omega)
        rw [Nat.add_sub_cancel] at b
        have ek : (t.take (m + 1)).getD m [] = t.getD m [] := by
          rw [List.getD_eq_getElem?_getD, List.getElem?_take_of_lt (by omega), ← List.getD_eq_getElem?_getD]
        rw [ek]
        simpa [at2] using b
  have := this t.length (Nat.le_refl _)
  rwa [List.take_length] at this
end Go.Proofs.Ytdinepghommchaa.V

-- Written by a program of this session over the kit's printer: wip/gp.py.
namespace Go.Proofs.Ytdinepghommchaa.V
open Go.RowKit Go.Proofs.YtdinepghommchaaW.PrintWords Go.Proofs.YtdinepghommchaaW.PrintLast Go.Proofs.YtdinepghommchaaW.PrintMore
attribute [local go_sem] max2_int min2_int max_two min_two max_three min_three max_four min_four   -- for this text's walks alone
set_option linter.unusedVariables false
set_option linter.unusedSimpArgs false

/-! ### veils_veil_size: function 98 -/
def veils_veil_size.f (l0 : List (List Int)) : Option (Int) := some (l0.length : Int)
set_option maxHeartbeats 8000000 in
set_option maxRecDepth 100000 in
theorem veils_veil_size.calls (A0 : Option Addr) (c0 : Nat) (l0 : List (List Int)) (r : Int) (w : World) (hr0 : Kd.C (Kd.slice 3 (Kd.int .i64)) w A0 l0.length l0) (hc0 : l0.length ≤ c0) (h : veils_veil_size.f l0 = some r) :
 Calls Try.prog 98 #[.slice A0 l0.length c0] w fun e w' => e = .returned (.int .i64 r) ∧ Drawn0 w w' := by
 have HR0 := Aside0.mk hr0
 have HC0 := Aside0.mk hc0
 clear hr0 hc0
 have H : (some (l0.length : Int)) = some r := h
 clear h
 obtain rfl := Option.some.inj H
 go_enter Try.func98, Try.ntmps98
 go_wp2
 go_ret
 exact ⟨rf_, dr_⟩

end Go.Proofs.Ytdinepghommchaa.V

/- The walks of raised's closure and of raised over a veil: the heights of a veil. -/
namespace Go.Proofs.Ytdinepghommchaa.V
open Go.RowKit Go.Proofs.YtdinepghommchaaW.PrintWords Go.Proofs.YtdinepghommchaaW.PrintLast Go.Proofs.YtdinepghommchaaW.PrintMore
set_option linter.unusedVariables false
set_option linter.unusedSimpArgs false

def veils_raised1.f (l : List (List Int)) (i j : Int) : Option Int := (veils_veil_sum.f 1000 l i j).bind fun s => some (wrap64 (wrap64 (i + j) - wrap64 (2 * s)))

set_option maxHeartbeats 400000 in
set_option maxRecDepth 100000 in
theorem veils_raised1.calls (l : List (List Int)) (A : Option Addr) (c b : Nat) (i j x : Int) (w : World) (hb : Aside0 (w.heap[b]? = some (.cells #[.iface 49 (.slice A l.length c)] 68 (0, 0))))
 (hr : Aside0 (Kd.C (Kd.slice 3 (Kd.int .i64)) w A l.length l)) (hc : Aside0 (l.length ≤ c)) (h : veils_raised1.f l i j = some x) :
 Calls Try.prog 64 #[.int .i64 i, .int .i64 j, .pointer (some ⟨b, 0, none⟩)] w fun e w' => e = .returned (.int .i64 x) ∧ Below w.heap.size w w' := by
 unfold veils_raised1.f at h
 obtain ⟨s, hs, hx⟩ := Option.bind_eq_some_iff.mp h
 have HS := Aside0.mk hs
 obtain rfl := Option.some.inj hx
 clear h hs hx
 have hcell : w.cell? ⟨b, 0, none⟩ = some (.iface 49 (.slice A l.length c)) := (blk_cell hb.out 0).trans rfl
 have hm := H.m_veil_sum A l.length c
 go_enter Try.func64, Try.ntmps64
 go_wp2_with (go_at_call 54; refine (veils_veil_sum.calls 1000 A c l i j s _ hr.out hc.out HS.out).mono ?_; rintro e w' ⟨rfl, ⟨nd, rfl⟩⟩)
 go_ret
 exact ⟨rfl, pw_below_drewN (Below.refl _ _) _⟩

def veils_raised.f (l : List (List Int)) : Option (List (List Int)) := veils_made_int.f (veils_raised1.f l) 1000 (wrap64 ((l.length : Int) + 1))

set_option maxHeartbeats 400000 in
set_option maxRecDepth 100000 in
theorem veils_raised.calls (A0 : Option Addr) (c0 : Nat) (l0 : List (List Int)) (r : List (List Int)) (w : World) (hr0 : Kd.C (Kd.slice 3 (Kd.int .i64)) w A0 l0.length l0) (hc0 : l0.length ≤ c0) (h : veils_raised.f l0 = some r) :
 Calls Try.prog 49 #[.iface 49 (.slice A0 l0.length c0)] w fun e w' => ∃ v0_ : Value, e = .returned (v0_) ∧ Kd.S (Kd.slice 3 (Kd.int .i64)) 28 w' w.heap.size (fun _ => True) v0_ r ∧ Below w.heap.size w w' := by
 have HR := Aside0.mk hr0
 have HC := Aside0.mk hc0
 have HH := Aside0.mk h
 clear hr0 hc0 h
 have hm := H.m_veil_size A0 l0.length c0
 have hmf : ∀ (fn : Fn) (first cap : Array Value) (w : World), (Instr.makeFunc fn first cap).run Try.prog w = .ok (.func fn first cap) w := fun _ _ _ _ => rfl
 have hcell : (w.alloc (.cells #[.iface 49 (.slice A0 l0.length c0)] 68)).cell? ⟨w.heap.size, 0, none⟩ = some (.iface 49 (.slice A0 l0.length c0)) := by
  rw [World.cell?_alloc_at _ _ _ _ rfl]; rfl
 go_enter Try.func49, Try.ntmps49
 go_wp2_with (first | (go_at_call 98; refine (veils_veil_size.calls A0 c0 l0 _ _ ?s1 HC.out rfl).mono ?_; (case s1 => exact Kd.C_below HR.out (below_alloc (Below.refl _ _) _)); rintro e w' ⟨rfl, ⟨nd, rfl⟩⟩) | (go_at_call 59; refine (veils_made_int.calls (veils_raised1.f l0) Try.func64 (by kernel_rfl) rfl #[.pointer (some ⟨w.heap.size, 0, none⟩)] 1000 (wrap64 ((l0.length : Int) + 1)) r _ ?g1 HH.out).mono ?_; rotate_left; (rintro e w' ⟨v0, rfl, ho, hb⟩)))
 · go_ret
   exact ⟨v0, rfl, Kd.S_lower ho (below_size (pw_below_drewN (below_alloc (Below.refl _ _) _) _)), below_step (pw_below_drewN (below_alloc (Below.refl _ _) _) _) hb⟩
 case g1 =>
   refine ⟨fun i j x W hB hx => ?_⟩
   refine veils_raised1.calls l0 A0 c0 w.heap.size i j x W ⟨?_⟩ ⟨Kd.C_below (Kd.C_below HR.out (pw_below_drewN (below_alloc (Below.refl _ _) _) _)) hB⟩ HC hx
   exact (hB.block _ (by simp)).trans (by simpa using heap_alloc_new w _)
end Go.Proofs.Ytdinepghommchaa.V

-- Written by a program of this session over the kit's printer: wip/gp.py.
namespace Go.Proofs.Ytdinepghommchaa.V
open Go.RowKit Go.Proofs.YtdinepghommchaaW.PrintWords Go.Proofs.YtdinepghommchaaW.PrintLast Go.Proofs.YtdinepghommchaaW.PrintMore
attribute [local go_sem] max2_int min2_int max_two min_two max_three min_three max_four min_four   -- for this text's walks alone
set_option linter.unusedVariables false
set_option linter.unusedSimpArgs false

/-! ### veils_Heights: function 28 -/
def veils_Heights.f (k : Nat) (l0 : List (List Int)) : Option ((List (List Int)) × Int) := (veils_read.f k l0).bind fun bt128 => (if bt128.2 = true then ((veils_raised.f bt128.1).bind fun t132 => (some (t132, 0))) else (some (([] : List (List Int)), 2)))
theorem veils_Heights.mono : ∀ a0 k, LeO (veils_Heights.f k a0) (veils_Heights.f (k + 1) a0) := by
 intro a0 k
 unfold veils_Heights.f
 repeat' first
  | (with_reducible exact veils_read.mono _ _)
  | (with_reducible exact LeO.refl _)
  | (with_reducible exact LeO.none _)
  | (with_reducible refine LeO.ite ?_ ?_)
  | (with_reducible refine LeO.bind ?_ (fun _ => ?_))
  | exact veils_read.mono _ _
  | exact LeO.none _
  | refine LeO.ite ?_ ?_
  | refine LeO.bind ?_ (fun _ => ?_)
set_option maxHeartbeats 8000000 in
set_option maxRecDepth 100000 in
theorem veils_Heights.calls (k : Nat) (A0 : Option Addr) (c0 : Nat) (l0 : List (List Int)) (r1 : List (List Int)) (r2 : Int) (w : World) (hr0 : Kd.C (Kd.slice 3 (Kd.int .i64)) w A0 l0.length l0) (hc0 : l0.length ≤ c0) (h : veils_Heights.f k l0 = some (r1, r2)) :
 Calls Try.prog 28 #[.slice A0 l0.length c0] w fun e w' => ∃ v0_ : Value, e = .returned (.tuple #[v0_, .int .i64 r2]) ∧ Kd.S (Kd.slice 3 (Kd.int .i64)) 28 w' w.heap.size (fun _ => True) v0_ r1 ∧ Below w.heap.size w w' := by
 have HR0 := Aside0.mk hr0
 have HC0 := Aside0.mk hc0
 clear hr0 hc0
 have HB := Aside0.mk (Below.refl w.heap.size w)
 have H : ((veils_read.f k l0).bind fun bt128 => (if bt128.2 = true then ((veils_raised.f bt128.1).bind fun t132 => (some (t132, 0))) else (some (([] : List (List Int)), 2)))) = some (r1, r2) := h
 clear h
 replace H := Option.bind_eq_some_iff.mp H
 obtain ⟨⟨t128, t131⟩, A20, H⟩ := H
 replace H : (if t131 = true then ((veils_raised.f t128).bind fun t132 => (some (t132, 0))) else (some (([] : List (List Int)), 2))) = some (r1, r2) := H
 have A2 := Aside0.mk A20
 clear A20
 by_cases c3 : t131 = true
 · subst c3
   have H1 : ((veils_raised.f t128).bind fun t132 => (some (t132, 0))) = some (r1, r2) := by rw [if_pos rfl] at H; exact H
   clear H
   have H := H1
   clear H1
   replace H := Option.bind_eq_some_iff.mp H
   obtain ⟨t132, A40, H⟩ := H
   replace H : (some (t132, 0)) = some (r1, r2) := H
   have A4 := Aside0.mk A40
   clear A40
   simp only [Option.some.injEq, Prod.mk.injEq] at H
   obtain ⟨rfl, rfl⟩ := H
   go_enter Try.func28, Try.ntmps28
   go_wp2_with (first | ((with_reducible refine gate_callee (f := 51) rfl ?_); refine goesL_ (some 8) rfl rfl Try.func51 (by kernel_rfl) rfl #[.slice A0 l0.length c0] rfl ar_ ?_; (with_reducible refine (veils_read.calls k (fun k_ => k_ < w.heap.size) _ _ l0 t128 true _ ?side1 A2.out).mono ?_); (case side1 => exact Kd.V_mk HC0.out (Kd.F_below (Kd.C_F (Kd.heap_slice 3 (Kd.heap_int .i64)) HR0.out) (bel_))); rintro e w5 ⟨v129, rfl, ho0, hb⟩; refine ⟨_, rfl, ?_⟩; have n0_ := Aside0.mk (Kd.V_lower (Kd.V_mono (ok' := fun k_ => True) ho0 (fun k_ hk_ => trivial)) (below_size (bel_))); have n1_ := Aside0.mk (below_step (bel_) hb); clear HB; have HO130 := n0_; have HB := n1_; clear n0_ n1_; (try clear hb); (try clear hb2); (try clear hk); (try clear hi); (try clear ho0); obtain ⟨Ao6, co6, eo6⟩ := Kd.V_slice HO130.out; subst eo6) | ((with_reducible refine gate_callee (f := 49) rfl ?_); refine goesL_ (some 15) rfl rfl Try.func49 (by kernel_rfl) rfl #[.iface 49 (.slice Ao6 t128.length co6)] rfl ar_ ?_; (with_reducible refine (veils_raised.calls _ _ t128 t132 _ ?side1 ?side2 A4.out).mono ?_); (case side1 => repeat (first | exact (Kd.V_reads' HO130.out).2.2 | (with_reducible refine Kd.C_alloc ?_ _) | (with_reducible refine Kd.C_drewN ?_ _) | (with_reducible refine Kd.C_drew ?_))); (case side2 => exact (Kd.V_reads' HO130.out).2.1); rintro e w7 ⟨v133, rfl, ho0, hb⟩; refine ⟨_, rfl, ?_⟩; have n0_ := Aside0.mk (Kd.V_elder' (nV_ HO130.out) (Kd.S_base ho0) hb); have n1_ := Aside0.mk (Kd.S_lower ho0 (below_size (bel_))); have n2_ := Aside0.mk (below_step (bel_) hb); clear HO130; clear HB; have HO130 := n0_; have HO134 := n1_; have HB := n2_; clear n0_ n1_ n2_; (try clear hb); (try clear hb2); (try clear hk); (try clear hi); (try clear ho0)))
   go_ret2
   exact ⟨_, er_, by (with_reducible repeat (first | apply Kd.S_alloc | apply Kd.S_drewN | apply Kd.S_drew)); exact HO134.out, bel_⟩
 · replace c3 := Bool.eq_false_iff.mpr c3
   subst c3
   have H1 : (some (([] : List (List Int)), 2)) = some (r1, r2) := by rw [if_neg (show ¬ (false = true) by decide)] at H; exact H
   clear H
   have H := H1
   clear H1
   simp only [Option.some.injEq, Prod.mk.injEq] at H
   obtain ⟨rfl, rfl⟩ := H
   go_enter Try.func28, Try.ntmps28
   go_wp2_with (first | ((with_reducible refine gate_callee (f := 51) rfl ?_); refine goesL_ (some 8) rfl rfl Try.func51 (by kernel_rfl) rfl #[.slice A0 l0.length c0] rfl ar_ ?_; (with_reducible refine (veils_read.calls k (fun k_ => k_ < w.heap.size) _ _ l0 t128 false _ ?side1 A2.out).mono ?_); (case side1 => exact Kd.V_mk HC0.out (Kd.F_below (Kd.C_F (Kd.heap_slice 3 (Kd.heap_int .i64)) HR0.out) (bel_))); rintro e w8 ⟨v129, rfl, ho0, hb⟩; refine ⟨_, rfl, ?_⟩; have n0_ := Aside0.mk (Kd.V_lower (Kd.V_mono (ok' := fun k_ => True) ho0 (fun k_ hk_ => trivial)) (below_size (bel_))); have n1_ := Aside0.mk (below_step (bel_) hb); clear HB; have HO130 := n0_; have HB := n1_; clear n0_ n1_; (try clear hb); (try clear hb2); (try clear hk); (try clear hi); (try clear ho0)))
   go_ret2
   exact ⟨_, er_, by first | exact Kd.S_nil _ _ _ _ _ | exact Kd.N_nil _ _ _ _ _ | exact Kd.V_nil _ _ _ _ _ | exact Kd.Q_nil _ _ _ _ _ | exact Kd.R_nil _ _ _ _ _, bel_⟩

end Go.Proofs.Ytdinepghommchaa.V
