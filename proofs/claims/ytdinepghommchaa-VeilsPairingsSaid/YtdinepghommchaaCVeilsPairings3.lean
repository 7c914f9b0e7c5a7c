/- The walks and the pure laws under the claim of VeilsPairings, part: Gw, Rs, Vf23, Vf24, Vf6, PurePairings. -/
import Derived.Test.YtdinepghommchaaCb8
import Derived.Test.YtdinepghommchaaCb2
import Derived.Test.YtdinepghommchaaCb1
import Derived.Test.YtdinepghommchaaCb4
import Derived.Test.YtdinepghommchaaCVeilsPairings1
import Derived.Test.YtdinepghommchaaCb3
import Derived.Test.YtdinepghommchaaCb6
import Derived.Test.YtdinepghommchaaCVeilsPairings2
/- few: when it answers true, the tables are small. -/
namespace Go.Proofs.Ytdinepghommchaa.V
open Go.RowKit Go.Proofs.YtdinepghommchaaW.PrintWords Go.Proofs.YtdinepghommchaaW.PrintLast Go.Proofs.YtdinepghommchaaW.PrintMore
theorem rdL2_cast (L : List (List (List Int))) (i : Nat) : rd_L2 L (i : Int) = L.getD i [] := by unfold rd_L2; rw [Int.toNat_natCast]
def Few (t : List (List Int)) : Prop := t.length ≤ 20 ∧ ∀ x, x < t.length → (t.getD x []).length ≤ 20
end Go.Proofs.Ytdinepghommchaa.V

/- read always answers, and where it answers true the table is a veil. -/
namespace Go.Proofs.Ytdinepghommchaa.V
open Go.RowKit Go.Proofs.YtdinepghommchaaW.PrintWords Go.Proofs.YtdinepghommchaaW.PrintLast Go.Proofs.YtdinepghommchaaW.PrintMore
def pr (r : List Int) (m : Nat) : Int := ps (fun j => r.getD j 0) m
theorem alt_l0 (r : List Int) (hr : r.length ≤ 50) : ∀ d k x, x + d = r.length → 0 ≤ pr r x ∧ pr r x ≤ 1 →
    veils_alternates.l0 (k + d + 1) (pr r x) r r.length x = some false ∨
    (veils_alternates.l0 (k + d + 1) (pr r x) r r.length x = some true ∧ (∀ m, x ≤ m → m ≤ r.length → 0 ≤ pr r m ∧ pr r m ≤ 1) ∧ pr r r.length = 1)
  | 0, k, x, h, hs => by
    obtain rfl : x = r.length := by omega
    rw [Nat.add_zero, veils_alternates.l0, if_neg (by omega)]
    by_cases c : pr r r.length = 1
    · right
      refine ⟨by rw [c]; rfl, fun m a b => ?_, c⟩
      obtain rfl : m = r.length := by omega
      exact hs
    · left
      rw [beq_eq_false_iff_ne.mpr c]
  | d + 1, k, x, h, hs => by
    rw [show k + (d + 1) + 1 = (k + d + 1) + 1 from rfl, veils_alternates.l0, if_pos (by omega), if_pos (by omega), if_pos (by omega), rd_cast]
    by_cases c1 : r.getD x 0 < -1
    · left; rw [if_pos c1]
    rw [if_neg c1]
    by_cases c2 : r.getD x 0 > 1
    · left; rw [if_pos c2]
    have e : wrap64 (pr r x + r.getD x 0) = pr r (x + 1) := by rw [wr _ (by omega)]; rfl
    rw [if_neg c2, e]
    by_cases c3 : pr r (x + 1) < 0
    · left; rw [if_pos c3]
    rw [if_neg c3]
    by_cases c4 : pr r (x + 1) > 1
    · left; rw [if_pos c4]
    rw [if_neg c4, wr_succ x (by omega)]
    rcases alt_l0 r hr d k (x + 1) (by omega) ⟨by omega, by omega⟩ with ih | ⟨ih1, ih2, ih3⟩
    · left; exact ih
    · right
      refine ⟨ih1, fun m a b => ?_, ih3⟩
      by_cases e : m = x
      · subst e; exact hs
      · exact ih2 m (by omega) b
/-- Numbers that are not 0 alternate. -/
def Alt (r : List Int) : Prop := (∀ m, m ≤ r.length → 0 ≤ pr r m ∧ pr r m ≤ 1) ∧ pr r r.length = 1
theorem alt_spec (r : List Int) (hr : r.length ≤ 20) (k : Nat) (hk : 30 ≤ k) : veils_alternates.f k r = some false ∨ (veils_alternates.f k r = some true ∧ Alt r) := by
  unfold veils_alternates.f
  have h := alt_l0 r (by omega) r.length (k - r.length - 1) 0 (by omega) ⟨by simp [pr, ps], by simp [pr, ps]⟩
  rw [show k - r.length - 1 + r.length + 1 = k by omega, show pr r 0 = 0 from rfl, show ((0 : Nat) : Int) = 0 from rfl] at h
  rcases h with h | ⟨h1, h2, h3⟩
  · left; exact h
  · right; exact ⟨h1, fun m hm => h2 m (by omega) hm, h3⟩
theorem read1_spec (t : List (List Int)) (r : List Int) (ht : t.length ≤ 20) : veils_read1.f t r = some true ∨ (veils_read1.f t r = some false ∧ r.length = t.length ∧ Alt r) := by
  unfold veils_read1.f
  by_cases c : r.length = t.length
  · rw [if_pos c]
    rcases alt_spec r (by omega) 1000 (by omega) with h | ⟨h, ha⟩
    · left; rw [h]; rfl
    · right; rw [h]; exact ⟨rfl, c, ha⟩
  · left; rw [if_neg c]
theorem index_l0 (g : List Int → Option Bool) (P : List Int → Prop) (hg : ∀ r, g r = some true ∨ (g r = some false ∧ P r)) (t : List (List Int)) (ht : t.length ≤ 50) : ∀ d k x, x + d = t.length →
    (∃ y : Int, 0 ≤ y ∧ slices_IndexFunc_int_int.l0 g (k + d + 1) t t.length x = some y) ∨
    (slices_IndexFunc_int_int.l0 g (k + d + 1) t t.length x = some (-1) ∧ ∀ m, x ≤ m → m < t.length → P (t.getD m []))
  | 0, k, x, h => by
    right
    refine ⟨?_, fun m a b => by omega⟩
    rw [Nat.add_zero, slices_IndexFunc_int_int.l0, if_neg (by omega)]
  | d + 1, k, x, h => by
    rw [show k + (d + 1) + 1 = (k + d + 1) + 1 from rfl, slices_IndexFunc_int_int.l0, if_pos (by omega), if_pos (by omega), if_pos (by omega), rdL1_cast]
    rcases hg (t.getD x []) with e | ⟨e, hp⟩
    · left
      rw [e, Option.bind_some, if_pos rfl]
      exact ⟨x, by omega, rfl⟩
    · rw [e, Option.bind_some, if_neg (by decide), wr_succ x (by omega)]
      rcases index_l0 g P hg t ht d k (x + 1) (by omega) with ih | ⟨ih1, ih2⟩
      · left; exact ih
      · right
        refine ⟨ih1, fun m a b => ?_⟩
        by_cases em : m = x
        · subst em; exact hp
        · exact ih2 m (by omega) b
theorem contains_spec (g : List Int → Option Bool) (P : List Int → Prop) (hg : ∀ r, g r = some true ∨ (g r = some false ∧ P r)) (t : List (List Int)) (ht : t.length ≤ 50) :
    slices_ContainsFunc_int_int.f g 1000 t = some true ∨ (slices_ContainsFunc_int_int.f g 1000 t = some false ∧ ∀ m, m < t.length → P (t.getD m [])) := by
  unfold slices_ContainsFunc_int_int.f slices_IndexFunc_int_int.f
  have h := index_l0 g P hg t ht t.length (999 - t.length) 0 (by omega)
  rw [show 999 - t.length + t.length + 1 = 1000 by omega, show ((0 : Nat) : Int) = 0 from rfl] at h
  rcases h with ⟨y, h0, h⟩ | ⟨h, hp⟩
  · left
    rw [h, Option.bind_some, decide_eq_true (by omega)]
  · right
    rw [h, Option.bind_some, decide_eq_false (by omega)]
    exact ⟨rfl, fun m hm => hp m (by omega) hm⟩
def colTo (t : List (List Int)) (j i : Nat) : List Int := (List.range i).map fun m => at2 t m j
theorem colTo_len (t : List (List Int)) (j i : Nat) : (colTo t j i).length = i := by simp [colTo]
theorem colTo_get (t : List (List Int)) (j i m : Nat) (h : m < i) : (colTo t j i).getD m 0 = at2 t m j := by
  simp [colTo, List.getD_eq_getElem?_getD, h]
theorem read_l1 (t : List (List Int)) (n j : Nat) (hn : n ≤ 20) (ht : t.length = n) (hr : ∀ i, i < n → (t.getD i []).length = n) (hj : j < n) : ∀ d k i, i + d = n →
    veils_read.l1 (k + d + 1) t j (colTo t j i) n j t n i = ((veils_alternates.f k (colTo t j n)).bind fun t107 => (if t107 = true then (veils_read.l0 k t n (j + 1 : Nat)) else (some (([] : List (List Int)), false))))
  | 0, k, i, h => by
    obtain rfl : i = n := by omega
    rw [Nat.add_zero, veils_read.l1, if_neg (by omega), wr_succ j (by omega)]
  | d + 1, k, i, h => by
    have e : colTo t j i ++ [(t.getD i []).getD j 0] = colTo t j (i + 1) := by
      unfold colTo
      rw [List.range_succ, List.map_append]
      rfl
    rw [show k + (d + 1) + 1 = (k + d + 1) + 1 from rfl, veils_read.l1, if_pos (by omega), if_pos (by omega), if_pos (by omega), if_pos (by omega), rdL1_cast, if_pos (by rw [hr i (by omega)]; omega), if_pos (by rw [colTo_len]; omega), rd_cast, wr_succ i (by omega), e]
    exact read_l1 t n j hn ht hr hj d k (i + 1) (by omega)
theorem ps_congr {f g : Nat → Int} : ∀ m, (∀ i, i < m → f i = g i) → ps f m = ps g m
  | 0, _ => rfl
  | m + 1, h => by simp only [ps]; rw [ps_congr m (fun i hi => h i (by omega)), h m (by omega)]
theorem read_l0 (t : List (List Int)) (n : Nat) (hn : n ≤ 20) (ht : t.length = n) (hr : ∀ i, i < n → (t.getD i []).length = n) : ∀ d k j, j + d = n →
    veils_read.l0 (k + d * (n + 2) + 31) t n j = some ([], false) ∨
    (veils_read.l0 (k + d * (n + 2) + 31) t n j = some (t, true) ∧ ∀ m, j ≤ m → m < n → (∀ i, i ≤ n → 0 ≤ ps (fun i => at2 t i m) i ∧ ps (fun i => at2 t i m) i ≤ 1) ∧ ps (fun i => at2 t i m) n = 1)
  | 0, k, j, h => by
    right
    refine ⟨?_, fun m a b => by omega⟩
    rw [show k + 0 * (n + 2) + 31 = (k + 30) + 1 by omega, veils_read.l0, if_neg (by omega)]
  | d + 1, k, j, h => by
    have e1 := read_l1 t n j hn ht hr (by omega) n (k + d * (n + 2) + 31) 0 (by omega)
    rw [show colTo t j 0 = [] from rfl, show ((0 : Nat) : Int) = 0 from rfl] at e1
    rw [show k + (d + 1) * (n + 2) + 31 = (k + d * (n + 2) + 31 + n + 1) + 1 by rw [Nat.succ_mul]; omega, veils_read.l0, if_pos (by omega), ht, e1]
    rcases alt_spec (colTo t j n) (by rw [colTo_len]; omega) (k + d * (n + 2) + 31) (by omega) with h1 | ⟨h1, h2, h3⟩
    · left; rw [h1, Option.bind_some, if_neg (by decide)]
    · rw [h1, Option.bind_some, if_pos rfl]
      rcases read_l0 t n hn ht hr d k (j + 1) (by omega) with ih | ⟨ih1, ih2⟩
      · left; exact ih
      · right
        refine ⟨ih1, fun m a b => ?_⟩
        by_cases em : m = j
        · subst em
          rw [colTo_len] at h2 h3
          have q : ∀ i, i ≤ n → pr (colTo t m n) i = ps (fun i => at2 t i m) i := fun i hi => ps_congr i (fun x hx => colTo_get t m n x (by omega))
          refine ⟨fun i hi => ?_, ?_⟩
          · rw [← q i hi]; exact h2 i hi
          · rw [← q n (Nat.le_refl _)]; exact h3
        · exact ih2 m (by omega) b
theorem read_spec (t : List (List Int)) : veils_read.f 200 t = some ([], false) ∨ (veils_read.f 200 t = some (t, true) ∧ Veil t.length t) := by
  unfold veils_read.f
  by_cases c1 : (t.length : Int) < 1
  · left; rw [if_pos c1, veils_read.j0, if_pos rfl]
  rw [if_neg c1]
  by_cases c2 : (t.length : Int) > 5
  · left; rw [if_pos c2, veils_read.j0, if_pos rfl]
  rw [if_neg c2]
  rcases contains_spec (veils_read1.f t) (fun r => r.length = t.length ∧ Alt r) (fun r => read1_spec t r (by omega)) t (by omega) with h | ⟨h, hp⟩
  · left; rw [h, Option.bind_some, veils_read.j0, if_pos rfl]
  · rw [h, Option.bind_some, veils_read.j0, if_neg (by decide)]
    obtain ⟨n, hn⟩ : ∃ n, n = t.length := ⟨_, rfl⟩
    rw [← hn] at hp ⊢
    have h7 : n * (n + 2) ≤ 5 * 7 := Nat.mul_le_mul (by omega) (by omega)
    have hr : ∀ i, i < n → (t.getD i []).length = n := fun i hi => (hp i hi).1
    have h0 := read_l0 t n (by omega) hn.symm hr n (199 - n * (n + 2) - 31) 0 (by omega)
    rw [show 199 - n * (n + 2) - 31 + n * (n + 2) + 31 = 199 by omega, show ((0 : Nat) : Int) = 0 from rfl] at h0
    rcases h0 with h0 | ⟨h0, hc⟩
    · left; exact h0
    · right
      refine ⟨h0, by omega, by omega, hn.symm, hr, fun i hi m hm => ?_, fun i hi m hm => (hc i (by omega) hi).1 m hm, fun i hi => ?_, fun i hi => (hc i (by omega) hi).2⟩
      · have := (hp i hi).2.1 m (by rw [hr i hi]; exact hm)
        exact this
      · have := (hp i hi).2.2
        rw [hr i hi] at this
        exact this
end Go.Proofs.Ytdinepghommchaa.V

-- Written by a program of this session over the kit's printer: wip/gp.py.
namespace Go.Proofs.Ytdinepghommchaa.V
open Go.RowKit Go.Proofs.YtdinepghommchaaW.PrintWords Go.Proofs.YtdinepghommchaaW.PrintLast Go.Proofs.YtdinepghommchaaW.PrintMore
attribute [local go_sem] max2_int min2_int max_two min_two max_three min_three max_four min_four   -- for this text's walks alone
set_option linter.unusedVariables false
set_option linter.unusedSimpArgs false

/-! ### clocheref09_Pairing: function 23 -/
def clocheref09_Pairing.f (k : Nat) (l0 : List (List Int)) : Option (List Int × Int) := (clocheref09_IsVeil.f k l0).bind fun t370 => (if t370 = true then ((clocheref09_pairing.f k l0).bind fun t371 => (some (t371, 0))) else (some (([] : List Int), 2)))
set_option maxHeartbeats 8000000 in
set_option maxRecDepth 100000 in
theorem clocheref09_Pairing.calls (k : Nat) (A0 : Option Addr) (c0 : Nat) (l0 : List (List Int)) (r1 : List Int) (r2 : Int) (w : World) (hr0 : Kd.C (Kd.slice 3 (Kd.int .i64)) w A0 l0.length l0) (hc0 : l0.length ≤ c0) (h : clocheref09_Pairing.f k l0 = some (r1, r2)) :
 Calls Try.prog 23 #[.slice A0 l0.length c0] w fun e w' => ∃ v0_ : Value, e = .returned (.tuple #[v0_, .int .i64 r2]) ∧ Kd.R (Kd.int .i64) 3 w' w.heap.size (fun _ => True) v0_ r1 ∧ Below w.heap.size w w' := by
 have HR0 := Aside0.mk hr0
 have HC0 := Aside0.mk hc0
 clear hr0 hc0
 have HB := Aside0.mk (Below.refl w.heap.size w)
 have H : ((clocheref09_IsVeil.f k l0).bind fun t370 => (if t370 = true then ((clocheref09_pairing.f k l0).bind fun t371 => (some (t371, 0))) else (some (([] : List Int), 2)))) = some (r1, r2) := h
 clear h
 replace H := Option.bind_eq_some_iff.mp H
 obtain ⟨t370, A20, H⟩ := H
 replace H : (if t370 = true then ((clocheref09_pairing.f k l0).bind fun t371 => (some (t371, 0))) else (some (([] : List Int), 2))) = some (r1, r2) := H
 have A2 := Aside0.mk A20
 clear A20
 by_cases c3 : t370 = true
 · subst c3
   have H1 : ((clocheref09_pairing.f k l0).bind fun t371 => (some (t371, 0))) = some (r1, r2) := by rw [if_pos rfl] at H; exact H
   clear H
   have H := H1
   clear H1
   replace H := Option.bind_eq_some_iff.mp H
   obtain ⟨t371, A40, H⟩ := H
   replace H : (some (t371, 0)) = some (r1, r2) := H
   have A4 := Aside0.mk A40
   clear A40
   simp only [Option.some.injEq, Prod.mk.injEq] at H
   obtain ⟨rfl, rfl⟩ := H
   go_enter Try.func23, Try.ntmps23
   go_wp2_with (first | ((with_reducible refine gate_callee (f := 19) rfl ?_); refine goesL_ (some 5) rfl rfl Try.func19 (by kernel_rfl) rfl #[.slice A0 l0.length c0] rfl ar_ ?_; (with_reducible refine (clocheref09_IsVeil.calls k _ _ l0 true _ ?side1 ?side2 A2.out).mono ?_); (case side1 => repeat (first | exact HR0.out | (with_reducible refine Kd.C_alloc ?_ _) | (with_reducible refine Kd.C_drewN ?_ _) | (with_reducible refine Kd.C_drew ?_))); (case side2 => exact HC0.out); rintro e w' ⟨rfl, ⟨nd, rfl⟩⟩; refine ⟨_, rfl, ?_⟩) | ((with_reducible refine gate_callee (f := 52) rfl ?_); refine goesL_ (some 8) rfl rfl Try.func52 (by kernel_rfl) rfl #[.slice A0 l0.length c0] rfl ar_ ?_; (with_reducible refine (clocheref09_pairing.calls k _ _ l0 t371 _ ?side1 ?side2 A4.out).mono ?_); (case side1 => repeat (first | exact HR0.out | (with_reducible refine Kd.C_alloc ?_ _) | (with_reducible refine Kd.C_drewN ?_ _) | (with_reducible refine Kd.C_drew ?_))); (case side2 => exact HC0.out); rintro e w5 ⟨v372, rfl, ho0, hb⟩; refine ⟨_, rfl, ?_⟩; have n0_ := Aside0.mk (Kd.R_lower ho0 (below_size (bel_))); have n1_ := Aside0.mk (below_step (bel_) hb); clear HB; have HO373 := n0_; have HB := n1_; clear n0_ n1_; (try clear hb); (try clear hb2); (try clear hk); (try clear hi); (try clear ho0)))
   go_ret2
   exact ⟨_, er_, by (with_reducible repeat (first | apply Kd.R_alloc | apply Kd.R_drewN | apply Kd.R_drew)); exact HO373.out, bel_⟩
 · replace c3 := Bool.eq_false_iff.mpr c3
   subst c3
   have H1 : (some (([] : List Int), 2)) = some (r1, r2) := by rw [if_neg (show ¬ (false = true) by decide)] at H; exact H
   clear H
   have H := H1
   clear H1
   simp only [Option.some.injEq, Prod.mk.injEq] at H
   obtain ⟨rfl, rfl⟩ := H
   go_enter Try.func23, Try.ntmps23
   go_wp2_with (first | ((with_reducible refine gate_callee (f := 19) rfl ?_); refine goesL_ (some 5) rfl rfl Try.func19 (by kernel_rfl) rfl #[.slice A0 l0.length c0] rfl ar_ ?_; (with_reducible refine (clocheref09_IsVeil.calls k _ _ l0 false _ ?side1 ?side2 A2.out).mono ?_); (case side1 => repeat (first | exact HR0.out | (with_reducible refine Kd.C_alloc ?_ _) | (with_reducible refine Kd.C_drewN ?_ _) | (with_reducible refine Kd.C_drew ?_))); (case side2 => exact HC0.out); rintro e w' ⟨rfl, ⟨nd, rfl⟩⟩; refine ⟨_, rfl, ?_⟩))
   go_ret2
   exact ⟨_, er_, by first | exact Kd.R_nil _ _ _ _ _ | exact Kd.N_nil _ _ _ _ _ | exact Kd.V_nil _ _ _ _ _ | exact Kd.Q_nil _ _ _ _ _ | exact Kd.S_nil _ _ _ _ _, bel_⟩

end Go.Proofs.Ytdinepghommchaa.V

-- Written by a program of this session over the kit's printer: wip/gp.py.
namespace Go.Proofs.Ytdinepghommchaa.V
open Go.RowKit Go.Proofs.YtdinepghommchaaW.PrintWords Go.Proofs.YtdinepghommchaaW.PrintLast Go.Proofs.YtdinepghommchaaW.PrintMore
attribute [local go_sem] max2_int min2_int max_two min_two max_three min_three max_four min_four   -- for this text's walks alone
set_option linter.unusedVariables false
set_option linter.unusedSimpArgs false

/-! ### clochelaw09_same: function 24 -/
def clochelaw09_same.l0 : Nat → List Int → List Int → Int → Option (Bool)
 | 0, _, _, _ => none
 | k + 1, x0, x1, x5 => if x5 < (x0.length : Int) then (if 0 ≤ x5 then (if x5 < (x1.length : Int) then (if (rd x0 x5) = (rd x1 x5) then (clochelaw09_same.l0 k x0 x1 (wrap64 (x5 + 1))) else (some false)) else (none)) else (none)) else (some true)
def clochelaw09_same.f (k : Nat) (l0 : List Int) (l1 : List Int) : Option (Bool) := if (l0.length : Int) = (l1.length : Int) then (clochelaw09_same.l0 k l0 l1 0) else (some false)
theorem clochelaw09_same.mono_l : ∀ k, (∀ y0 y1 y2, LeO (clochelaw09_same.l0 k y0 y1 y2) (clochelaw09_same.l0 (k + 1) y0 y1 y2))
 | 0 => fun _ _ _ r h => by simp [clochelaw09_same.l0] at h
 | k + 1 => by
  have ih0 := clochelaw09_same.mono_l k
  · intro y0 y1 y2
    unfold clochelaw09_same.l0
    repeat' first
    | (with_reducible exact ih0 _ _ _)
    | (with_reducible exact LeO.refl _)
    | (with_reducible exact LeO.none _)
    | (with_reducible refine LeO.ite ?_ ?_)
    | (with_reducible refine LeO.bind ?_ (fun _ => ?_))
    | exact ih0 _ _ _
    | exact LeO.none _
    | refine LeO.ite ?_ ?_
    | refine LeO.bind ?_ (fun _ => ?_)
theorem clochelaw09_same.mono : ∀ a0 a1 k, LeO (clochelaw09_same.f k a0 a1) (clochelaw09_same.f (k + 1) a0 a1) := by
 intro a0 a1 k
 have ih0 := clochelaw09_same.mono_l k
 unfold clochelaw09_same.f
 repeat' first
  | (with_reducible exact ih0 _ _ _)
  | (with_reducible exact LeO.refl _)
  | (with_reducible exact LeO.none _)
  | (with_reducible refine LeO.ite ?_ ?_)
  | (with_reducible refine LeO.bind ?_ (fun _ => ?_))
  | exact ih0 _ _ _
  | exact LeO.none _
  | refine LeO.ite ?_ ?_
  | refine LeO.bind ?_ (fun _ => ?_)
set_option maxHeartbeats 8000000 in
set_option maxRecDepth 100000 in
theorem clochelaw09_same.calls (k : Nat) (A0 : Option Addr) (c0 : Nat) (l0 : List Int) (A1 : Option Addr) (c1 : Nat) (l1 : List Int) (r : Bool) (w : World) (hr0 : Kd.C (Kd.int .i64) w A0 l0.length l0) (hc0 : l0.length ≤ c0) (hr1 : Kd.C (Kd.int .i64) w A1 l1.length l1) (hc1 : l1.length ≤ c1) (h : clochelaw09_same.f k l0 l1 = some r) :
 Calls Try.prog 24 #[.slice A0 l0.length c0, .slice A1 l1.length c1] w fun e w' => e = .returned (.bool r) ∧ Drawn0 w w' := by
 have HR0 := Aside0.mk hr0
 have HC0 := Aside0.mk hc0
 clear hr0 hc0
 have HR1 := Aside0.mk hr1
 have HC1 := Aside0.mk hc1
 clear hr1 hc1
 have H : (if (l0.length : Int) = (l1.length : Int) then (clochelaw09_same.l0 k l0 l1 0) else (some false)) = some r := h
 clear h
 by_cases c3 : (l0.length : Int) = (l1.length : Int)
 · rw [if_pos c3] at H
   have c3b0 : ((l0.length : Int) == (l1.length : Int)) = true := beq_iff_eq.mpr c3
   have c3b1 : ((l0.length : Int) != (l1.length : Int)) = false := bne_eq_false_iff_eq.mpr c3
   have c3b2 : (l0.length == l1.length) = true := by first | simpa using c3 | (simp at c3 ⊢; omega)
   clear c3
   have H' := Aside0.mk H
   clear H
   go_enter Try.func24, Try.ntmps24
   go_wp2
   repeat (go_quiet (fail); try go_wp2)
   go_loopg [5] k (fun kq v5 w' => ∃ (x5_1 : Int), v5 = .int .i64 x5_1 ∧ Aside0 (clochelaw09_same.l0 kq l0 l1 x5_1 = some r) ∧ Aside0 (kq ≤ k) ∧ Drawn0 w w')
   case atStart => exact ⟨(0), rf_, H', ⟨Nat.le_refl _⟩, dr_⟩
   case round =>
    clear H'
    try clear c1
    try clear c2
    try clear p2
    try clear c3
    try clear c3b0
    try clear c3b1
    try clear c3b2
    obtain ⟨x5_1, rfl, HA, HK1, ⟨m1, rfl⟩⟩ := hrel
    cases gk with
    | zero => exact absurd HA.out (by simp [clochelaw09_same.l0])
    | succ k1 =>
     have H := HA.out
     clear HA
     simp only [clochelaw09_same.l0] at H
     by_cases c4 : x5_1 < (l0.length : Int)
     · rw [if_pos c4] at H
       have c4b0 : decide (x5_1 < (l0.length : Int)) = true := decide_eq_true c4
       clear c4
       by_cases c5 : 0 ≤ x5_1
       · rw [if_pos c5] at H
         have c5b0 : decide (0 ≤ x5_1) = true := decide_eq_true c5
         clear c5
         by_cases c6 : x5_1 < (l1.length : Int)
         · rw [if_pos c6] at H
           have c6b0 : decide (x5_1 < (l1.length : Int)) = true := decide_eq_true c6
           clear c6
           by_cases c7 : (rd l0 x5_1) = (rd l1 x5_1)
           · rw [if_pos c7] at H
             have c7b0 : ((rd l0 x5_1) == (rd l1 x5_1)) = true := beq_iff_eq.mpr c7
             have c7b1 : ((rd l0 x5_1) != (rd l1 x5_1)) = false := bne_eq_false_iff_eq.mpr c7
             clear c7
             have H' := Aside0.mk H
             clear H
             obtain ⟨ad374, e374, hx374_0, p374, q374⟩ := ai_ HR0.out x5_1
             cases e374
             obtain ⟨ad375, e375, hx375_0, p375, q375⟩ := ai_ HR1.out x5_1
             cases e375
             go_wp2
             repeat (go_quiet (fail); try go_wp2)
             go_roundg k1
             case measure => have := HK1.out; omega
             case rel => exact ⟨(wrap64 (x5_1 + 1)), rf_, H', ⟨by have := HK1.out; omega⟩, dr_⟩
           · rw [if_neg c7] at H
             have c7b0 : ((rd l0 x5_1) == (rd l1 x5_1)) = false := beq_eq_false_iff_ne.mpr c7
             have c7b1 : ((rd l0 x5_1) != (rd l1 x5_1)) = true := bne_iff_ne.mpr c7
             obtain rfl := Option.some.inj H
             obtain ⟨ad374, e374, hx374_0, p374, q374⟩ := ai_ HR0.out x5_1
             cases e374
             obtain ⟨ad375, e375, hx375_0, p375, q375⟩ := ai_ HR1.out x5_1
             cases e375
             go_wp2
             repeat (go_quiet (fail); try go_wp2)
             go_ret
             exact ⟨rf_, dr_⟩
         · rw [if_neg c6] at H
           exact absurd H (by simp)
       · rw [if_neg c5] at H
         exact absurd H (by simp)
     · rw [if_neg c4] at H
       have c4b0 : decide (x5_1 < (l0.length : Int)) = false := decide_eq_false c4
       clear c4
       obtain rfl := Option.some.inj H
       go_wp2
       repeat (go_quiet (fail); try go_wp2)
       go_ret
       exact ⟨rf_, dr_⟩
 · rw [if_neg c3] at H
   have c3b0 : ((l0.length : Int) == (l1.length : Int)) = false := beq_eq_false_iff_ne.mpr c3
   have c3b1 : ((l0.length : Int) != (l1.length : Int)) = true := bne_iff_ne.mpr c3
   have c3b2 : (l0.length == l1.length) = false := by first | simpa using c3 | (simp at c3 ⊢; omega)
   obtain rfl := Option.some.inj H
   go_enter Try.func24, Try.ntmps24
   go_wp2
   repeat (go_quiet (fail); try go_wp2)
   go_ret
   exact ⟨rf_, dr_⟩

end Go.Proofs.Ytdinepghommchaa.V

-- Written by a program of this session over the kit's printer: wip/gp.py.
namespace Go.Proofs.Ytdinepghommchaa.V
open Go.RowKit Go.Proofs.YtdinepghommchaaW.PrintWords Go.Proofs.YtdinepghommchaaW.PrintLast Go.Proofs.YtdinepghommchaaW.PrintMore
attribute [local go_sem] max2_int min2_int max_two min_two max_three min_three max_four min_four   -- for this text's walks alone
set_option linter.unusedVariables false
set_option linter.unusedSimpArgs false

/-! ### clochelaw09_VeilsPairings: function 6 -/
mutual
def clochelaw09_VeilsPairings.j0 : Nat → List (List Int) → List Int → Bool → Option (Bool)
 | 0, _, _, _ => none
 | k + 1, x0, x1, x19 => if x19 = true then ((clochelaw09_alive.f).bind fun t398 => (some t398)) else ((veils_Pairing.f k x0).bind fun bt399 => ((clocheref09_Pairing.f k x0).bind fun bt403 => ((clochelaw09_same.f k bt399.1 bt403.1).bind fun t407 => (if t407 = true then (clochelaw09_VeilsPairings.j1 k x1 (bt399.2 != bt403.2)) else (clochelaw09_VeilsPairings.j1 k x1 true)))))
def clochelaw09_VeilsPairings.j1 : Nat → List Int → Bool → Option (Bool)
 | 0, _, _ => none
 | k + 1, x1, x39 => if x39 = true then (some false) else ((veils_Count.f k x1).bind fun bt408 => ((clocheref09_Count.f k x1).bind fun bt410 => (if bt408.1 = bt410.1 then (if bt408.2 = bt410.2 then ((clochelaw09_alive.f).bind fun t412 => (some t412)) else (some false)) else (some false))))
end
def clochelaw09_VeilsPairings.f (k : Nat) (l0 : List (List Int)) (l1 : List Int) : Option (Bool) := (clochelaw09_few.f k (([l0] : List (List (List Int))))).bind fun t397 => (if t397 = true then (clochelaw09_VeilsPairings.j0 k l0 l1 (decide ((l1.length : Int) > 40))) else (clochelaw09_VeilsPairings.j0 k l0 l1 true))
set_option maxHeartbeats 8000000 in
set_option maxRecDepth 100000 in
theorem clochelaw09_VeilsPairings.calls (k : Nat) (P0_ : Nat → Prop) (A0 : Option Addr) (c0 : Nat) (l0 : List (List Int)) (A1 : Option Addr) (c1 : Nat) (l1 : List Int) (w : World) (hs0 : Kd.V (Kd.slice 3 (Kd.int .i64)) 28 w w.heap.size (fun k_ => P0_ k_) (.slice A0 l0.length c0) l0) (hr1 : Kd.C (Kd.int .i64) w A1 l1.length l1) (hc1 : l1.length ≤ c1) (h : clochelaw09_VeilsPairings.f k l0 l1 = some true) :
 Calls Try.prog 6 #[.slice A0 l0.length c0, .slice A1 l1.length c1] w fun e w' => e = .returned (.bool true) ∧ Below w.heap.size w w' := by
 have HO0 := Aside0.mk (show Kd.V (Kd.slice 3 (Kd.int .i64)) 28 w w.heap.size (fun k_ => (P0_ k_ ∨ w.heap.size ≤ k_)) (.slice A0 l0.length c0) l0 from Kd.V_mono hs0 (fun k_ hk => .inl hk))
 have HR1 := Aside0.mk hr1
 have HC1 := Aside0.mk hc1
 clear hr1 hc1
 have HB := Aside0.mk (Below.refl w.heap.size w)
 have H : ((clochelaw09_few.f k (([l0] : List (List (List Int))))).bind fun t397 => (if t397 = true then (clochelaw09_VeilsPairings.j0 k l0 l1 (decide ((l1.length : Int) > 40))) else (clochelaw09_VeilsPairings.j0 k l0 l1 true))) = some true := h
 clear h
 have HC3 := Aside0.mk H
 clear H
 go_enter Try.func6, Try.ntmps6
 go_upto_region 1 with (fail)
 go_cut [19] (fun v19 wc => ∃ (kq : Nat) (x19_2 : Bool), v19 = .bool x19_2 ∧ Aside0 (clochelaw09_VeilsPairings.j0 kq l0 l1 x19_2 = some true) ∧ Aside0 (kq ≤ k) ∧ Aside0 (Kd.V (Kd.slice 3 (Kd.int .i64)) 28 wc w.heap.size (fun k_ => (P0_ k_ ∨ w.heap.size ≤ k_)) (.slice A0 l0.length c0) l0) ∧ Aside0 (Below w.heap.size w wc))
 case first =>
  have H := HC3.out
  clear HC3
  obtain ⟨y394, hy394⟩ : ∃ y_ : List (List (List Int)), y_ = (([l0] : List (List (List Int)))) := ⟨_, rfl⟩
  replace H : ((clochelaw09_few.f k y394).bind fun t397 => (if t397 = true then (clochelaw09_VeilsPairings.j0 k l0 l1 (decide ((l1.length : Int) > 40))) else (clochelaw09_VeilsPairings.j0 k l0 l1 true))) = some true := by first | (rw [hy394]; with_reducible exact H) | (have H2_ := (Option.bind_some _ _).symm.trans H; rw [hy394]; with_reducible exact H2_) | (have H2_ := (Option.bind_some _ _).symm.trans H; with_reducible exact H2_) | with_reducible exact H | (rw [hy394]; exact H) | exact H
  have Ny394 := Aside0.mk hy394
  clear hy394
  replace H := Option.bind_eq_some_iff.mp H
  obtain ⟨t397, A40, H⟩ := H
  replace H : (if t397 = true then (clochelaw09_VeilsPairings.j0 k l0 l1 (decide ((l1.length : Int) > 40))) else (clochelaw09_VeilsPairings.j0 k l0 l1 true)) = some true := H
  have A4 := Aside0.mk A40
  clear A40
  by_cases c5 : t397 = true
  · subst c5
    have H1 : (clochelaw09_VeilsPairings.j0 k l0 l1 (decide ((l1.length : Int) > 40))) = some true := by rw [if_pos rfl] at H; exact H
    clear H
    have H := H1
    clear H1
    have H' := Aside0.mk H
    clear H
    go_wp2_with (first | ((with_reducible refine gate_dst (N := 12) rfl ?_); (try (refine gate_guard (by rfl) ?_; dsimp only)); refine Kd.N_lit (Kd.slice 28 (Kd.slice 3 (Kd.int .i64))) _ 27 ?hg (N' := 12) ?hd (xs := ([l0] : List (List (List Int)))) (inner := [.slice A0 l0.length c0]) (ok := (fun k_ => (P0_ k_ ∨ w.heap.size ≤ k_))) (okp := (fun k_ => (P0_ k_ ∨ w.heap.size ≤ k_))) ?hr ?hp (fun _ hk => hk) ((show ∀ k_, w.heap.size ≤ k_ → (fun k_ => (P0_ k_ ∨ w.heap.size ≤ k_)) k_ from fun k_ hk => (.inr (Nat.le_trans (below_size (bel_)) hk))) _ (Nat.le_refl _)) (Below.refl _ _) (Nat.le_refl _) (by simp) ?_; (case hd => rfl); (case hg => rfl); (case hr => first | (go_simp; done) | (go_simp; rfl)); (case hp => exact (Reps.one (show Kd.FK (Kd.slice 28 (Kd.slice 3 (Kd.int .i64))) _ _ l0 [.slice A0 l0.length c0] from (Kd.FK_slice_mk (Kd.V_reads' (Kd.V_mono (ok' := (fun k_ => (P0_ k_ ∨ w.heap.size ≤ k_))) (HO0.out) (fun k_ hk => hk))).2.1 (Kd.V_F (Kd.V_mono (ok' := (fun k_ => (P0_ k_ ∨ w.heap.size ≤ k_))) (HO0.out) (fun k_ hk => hk))))) (Reps.none _ _))); intro v395 w6 ho7 hb hg_ hnew_; clear hg_ hnew_; (first | rw [← Ny394.out] at ho7 | (simp only [Int.reduceToNat] at ho7; rw [← Ny394.out] at ho7)); have n0_ := Aside0.mk (Kd.V_elder' (nV_ HO0.out) (Kd.N_base ho7) hb); have n1_ := Aside0.mk (Kd.N_lower ho7 (below_size (bel_))); have n2_ := Aside0.mk (below_step (bel_) hb); clear HO0; clear HB; have HO0 := n0_; have HO396 := n1_; have HB := n2_; clear n0_ n1_ n2_; clear hb ho7; obtain ⟨Ao8, co8, eo8⟩ := Kd.N_slice HO396.out; subst eo8) | ((with_reducible refine gate_callee (f := 21) rfl ?_); refine goesL_ (some 13) rfl rfl Try.func21 (by kernel_rfl) rfl #[.slice Ao8 y394.length co8] rfl ar_ ?_; (with_reducible refine (clochelaw09_few.calls k _ _ y394 true _ ?side1 ?side2 A4.out).mono ?_); (case side1 => repeat (first | exact (Kd.N_reads' HO396.out).2.2 | (with_reducible refine Kd.C_alloc ?_ _) | (with_reducible refine Kd.C_drewN ?_ _) | (with_reducible refine Kd.C_drew ?_))); (case side2 => exact (Kd.N_reads' HO396.out).2.1); rintro e w' ⟨rfl, ⟨nd, rfl⟩⟩; refine ⟨_, rfl, ?_⟩))
    go_meet
    case rel => exact ⟨_, (decide ((l1.length : Int) > 40)), rf_, H', ⟨by first | omega | exact Nat.le_refl _⟩, ⟨by (with_reducible repeat (first | apply Kd.V_alloc | apply Kd.V_drewN | apply Kd.V_drew)); exact Kd.V_mono HO0.out (fun _ hk => hk.1)⟩, ⟨bel_⟩⟩
  · replace c5 := Bool.eq_false_iff.mpr c5
    subst c5
    have H1 : (clochelaw09_VeilsPairings.j0 k l0 l1 true) = some true := by rw [if_neg (show ¬ (false = true) by decide)] at H; exact H
    clear H
    have H := H1
    clear H1
    have H' := Aside0.mk H
    clear H
    go_wp2_with (first | ((with_reducible refine gate_dst (N := 12) rfl ?_); (try (refine gate_guard (by rfl) ?_; dsimp only)); refine Kd.N_lit (Kd.slice 28 (Kd.slice 3 (Kd.int .i64))) _ 27 ?hg (N' := 12) ?hd (xs := ([l0] : List (List (List Int)))) (inner := [.slice A0 l0.length c0]) (ok := (fun k_ => (P0_ k_ ∨ w.heap.size ≤ k_))) (okp := (fun k_ => (P0_ k_ ∨ w.heap.size ≤ k_))) ?hr ?hp (fun _ hk => hk) ((show ∀ k_, w.heap.size ≤ k_ → (fun k_ => (P0_ k_ ∨ w.heap.size ≤ k_)) k_ from fun k_ hk => (.inr (Nat.le_trans (below_size (bel_)) hk))) _ (Nat.le_refl _)) (Below.refl _ _) (Nat.le_refl _) (by simp) ?_; (case hd => rfl); (case hg => rfl); (case hr => first | (go_simp; done) | (go_simp; rfl)); (case hp => exact (Reps.one (show Kd.FK (Kd.slice 28 (Kd.slice 3 (Kd.int .i64))) _ _ l0 [.slice A0 l0.length c0] from (Kd.FK_slice_mk (Kd.V_reads' (Kd.V_mono (ok' := (fun k_ => (P0_ k_ ∨ w.heap.size ≤ k_))) (HO0.out) (fun k_ hk => hk))).2.1 (Kd.V_F (Kd.V_mono (ok' := (fun k_ => (P0_ k_ ∨ w.heap.size ≤ k_))) (HO0.out) (fun k_ hk => hk))))) (Reps.none _ _))); intro v395 w9 ho10 hb hg_ hnew_; clear hg_ hnew_; (first | rw [← Ny394.out] at ho10 | (simp only [Int.reduceToNat] at ho10; rw [← Ny394.out] at ho10)); have n0_ := Aside0.mk (Kd.V_elder' (nV_ HO0.out) (Kd.N_base ho10) hb); have n1_ := Aside0.mk (Kd.N_lower ho10 (below_size (bel_))); have n2_ := Aside0.mk (below_step (bel_) hb); clear HO0; clear HB; have HO0 := n0_; have HO396 := n1_; have HB := n2_; clear n0_ n1_ n2_; clear hb ho10; obtain ⟨Ao11, co11, eo11⟩ := Kd.N_slice HO396.out; subst eo11) | ((with_reducible refine gate_callee (f := 21) rfl ?_); refine goesL_ (some 13) rfl rfl Try.func21 (by kernel_rfl) rfl #[.slice Ao11 y394.length co11] rfl ar_ ?_; (with_reducible refine (clochelaw09_few.calls k _ _ y394 false _ ?side1 ?side2 A4.out).mono ?_); (case side1 => repeat (first | exact (Kd.N_reads' HO396.out).2.2 | (with_reducible refine Kd.C_alloc ?_ _) | (with_reducible refine Kd.C_drewN ?_ _) | (with_reducible refine Kd.C_drew ?_))); (case side2 => exact (Kd.N_reads' HO396.out).2.1); rintro e w' ⟨rfl, ⟨nd, rfl⟩⟩; refine ⟨_, rfl, ?_⟩))
    go_meet
    case rel => exact ⟨_, (true), rf_, H', ⟨by first | omega | exact Nat.le_refl _⟩, ⟨by (with_reducible repeat (first | apply Kd.V_alloc | apply Kd.V_drewN | apply Kd.V_drew)); exact Kd.V_mono HO0.out (fun _ hk => hk.1)⟩, ⟨bel_⟩⟩
 case rest =>
  clear HC3
  try clear c1
  try clear c2
  try clear p2
  try clear c5
  try clear c6
  obtain ⟨kq, x19_2, rfl, HA, HJ2, HO_0, HB⟩ := hcut
  cases kq with
  | zero => exact absurd HA.out (by simp [clochelaw09_VeilsPairings.j0])
  | succ kj2 =>
    have H := HA.out
    clear HA
    simp only [clochelaw09_VeilsPairings.j0] at H
    by_cases c12 : x19_2 = true
    · subst c12
      have H1 : ((clochelaw09_alive.f).bind fun t398 => (some t398)) = some true := by rw [if_pos rfl] at H; exact H
      clear H
      have H := H1
      clear H1
      replace H := Option.bind_eq_some_iff.mp H
      obtain ⟨t398, A130, H⟩ := H
      replace H : (some t398) = some true := H
      have A13 := Aside0.mk A130
      clear A130
      have HT := Option.some.inj H
      subst HT
      go_wp2_with (first | ((with_reducible refine gate_callee (f := 15) rfl ?_); refine goesL_ (some 20) rfl rfl Try.func15 (by kernel_rfl) rfl #[] rfl ar_ ?_; (with_reducible refine (clochelaw09_alive.calls  true _ A13.out).mono ?_); rintro e w14 ⟨rfl, hb⟩; refine ⟨_, rfl, ?_⟩; have n0_ := Aside0.mk (Kd.V_below (nV_ HO_0.out) hb); have n1_ := Aside0.mk (below_step (bel_) hb); clear HO_0; clear HB; have HO_0 := n0_; have HB := n1_; clear n0_ n1_; (try clear hb); (try clear hb2); (try clear hk); (try clear hi)))
      go_ret
      exact ⟨er_, bel_⟩
    · replace c12 := Bool.eq_false_iff.mpr c12
      subst c12
      have H1 : ((veils_Pairing.f kj2 l0).bind fun bt399 => ((clocheref09_Pairing.f kj2 l0).bind fun bt403 => ((clochelaw09_same.f kj2 bt399.1 bt403.1).bind fun t407 => (if t407 = true then (clochelaw09_VeilsPairings.j1 kj2 l1 (bt399.2 != bt403.2)) else (clochelaw09_VeilsPairings.j1 kj2 l1 true))))) = some true := by rw [if_neg (show ¬ (false = true) by decide)] at H; exact H
      clear H
      have H := H1
      clear H1
      replace H := Option.bind_eq_some_iff.mp H
      obtain ⟨⟨t399, t400⟩, A150, H⟩ := H
      replace H : ((clocheref09_Pairing.f kj2 l0).bind fun bt403 => ((clochelaw09_same.f kj2 t399 bt403.1).bind fun t407 => (if t407 = true then (clochelaw09_VeilsPairings.j1 kj2 l1 (t400 != bt403.2)) else (clochelaw09_VeilsPairings.j1 kj2 l1 true)))) = some true := H
      have A15 := Aside0.mk A150
      clear A150
      replace H := Option.bind_eq_some_iff.mp H
      obtain ⟨⟨t403, t404⟩, A160, H⟩ := H
      replace H : ((clochelaw09_same.f kj2 t399 t403).bind fun t407 => (if t407 = true then (clochelaw09_VeilsPairings.j1 kj2 l1 (t400 != t404)) else (clochelaw09_VeilsPairings.j1 kj2 l1 true))) = some true := H
      have A16 := Aside0.mk A160
      clear A160
      have HC17 := Aside0.mk H
      clear H
      go_upto_region 5 with (first | ((with_reducible refine gate_callee (f := 22) rfl ?_); refine goesL_ (some 23) rfl rfl Try.func22 (by kernel_rfl) rfl #[.slice A0 l0.length c0] rfl ar_ ?_; (with_reducible refine (veils_Pairing.calls kj2 _ _ l0 t399 t400 _ ?side1 ?side2 A15.out).mono ?_); (case side1 => repeat (first | exact (Kd.V_reads' HO_0.out).2.2 | (with_reducible refine Kd.C_alloc ?_ _) | (with_reducible refine Kd.C_drewN ?_ _) | (with_reducible refine Kd.C_drew ?_))); (case side2 => exact (Kd.V_reads' HO_0.out).2.1); rintro e w18 ⟨v401, rfl, ho0, hb⟩; refine ⟨_, rfl, ?_⟩; have n0_ := Aside0.mk (Kd.V_elder' (nV_ HO_0.out) (Kd.R_base ho0) hb); have n1_ := Aside0.mk (Kd.R_lower (Kd.R_newM (M := fun k_ => (w.heap.size ≤ k_)) ho0 (below_size (bel_)) (fun k_ h_ => h_)) (below_size (bel_))); have n2_ := Aside0.mk (below_step (bel_) hb); clear HO_0; clear HB; have HO_0 := n0_; have HO402 := n1_; have HB := n2_; clear n0_ n1_ n2_; (try clear hb); (try clear hb2); (try clear hk); (try clear hi); (try clear ho0)) | ((with_reducible refine gate_callee (f := 23) rfl ?_); refine goesL_ (some 28) rfl rfl Try.func23 (by kernel_rfl) rfl #[.slice A0 l0.length c0] rfl ar_ ?_; (with_reducible refine (clocheref09_Pairing.calls kj2 _ _ l0 t403 t404 _ ?side1 ?side2 A16.out).mono ?_); (case side1 => repeat (first | exact (Kd.V_reads' HO_0.out).2.2 | (with_reducible refine Kd.C_alloc ?_ _) | (with_reducible refine Kd.C_drewN ?_ _) | (with_reducible refine Kd.C_drew ?_))); (case side2 => exact (Kd.V_reads' HO_0.out).2.1); rintro e w19 ⟨v405, rfl, ho0, hb⟩; refine ⟨_, rfl, ?_⟩; have n0_ := Aside0.mk (Kd.V_elder' (nV_ HO_0.out) (Kd.R_base ho0) hb); have n1_ := Aside0.mk (Kd.R_elder' (nR_ HO402.out) (Kd.R_base ho0) hb); have n2_ := Aside0.mk (Kd.R_lower (Kd.R_new' (Kd.R_newM (M := fun k_ => (w.heap.size ≤ k_)) ho0 (below_size (bel_)) (fun k_ h_ => h_)) (Kd.R_lt (nR_ HO402.out))) (below_size (bel_))); have n3_ := Aside0.mk (below_step (bel_) hb); clear HO_0; clear HO402; clear HB; have HO_0 := n0_; have HO402 := n1_; have HO406 := n2_; have HB := n3_; clear n0_ n1_ n2_ n3_; (try clear hb); (try clear hb2); (try clear hk); (try clear hi); (try clear ho0)))
      (try simp only [Act.put, List.setIfInBounds_toArray, List.set_cons_zero, List.set_cons_succ])
      go_cut [39] (fun v39 wc => ∃ (kq : Nat) (x39_16 : Bool), v39 = .bool x39_16 ∧ Aside0 (clochelaw09_VeilsPairings.j1 kq l1 x39_16 = some true) ∧ Aside0 (kq ≤ kj2) ∧ Aside0 (Below w.heap.size w wc))
      case first =>
       have H := HC17.out
       clear HC17
       replace H := Option.bind_eq_some_iff.mp H
       obtain ⟨t407, A200, H⟩ := H
       replace H : (if t407 = true then (clochelaw09_VeilsPairings.j1 kj2 l1 (t400 != t404)) else (clochelaw09_VeilsPairings.j1 kj2 l1 true)) = some true := H
       have A20 := Aside0.mk A200
       clear A200
       by_cases c21 : t407 = true
       · subst c21
         have H1 : (clochelaw09_VeilsPairings.j1 kj2 l1 (t400 != t404)) = some true := by rw [if_pos rfl] at H; exact H
         clear H
         have H := H1
         clear H1
         have H' := Aside0.mk H
         clear H
         obtain ⟨Ao22, co22, eo22⟩ := Kd.R_slice HO402.out
         subst eo22
         obtain ⟨Ao23, co23, eo23⟩ := Kd.R_slice HO406.out
         subst eo23
         go_wp2_with (first | ((with_reducible refine gate_callee (f := 24) rfl ?_); refine goesL_ (some 33) rfl rfl Try.func24 (by kernel_rfl) rfl #[.slice Ao22 t399.length co22, .slice Ao23 t403.length co23] rfl ar_ ?_; (with_reducible refine (clochelaw09_same.calls kj2 _ _ t399 _ _ t403 true _ ?side1 ?side2 ?side3 ?side4 A20.out).mono ?_); (case side1 => repeat (first | exact (Kd.R_reads' HO402.out).2.2 | (with_reducible refine Kd.C_alloc ?_ _) | (with_reducible refine Kd.C_drewN ?_ _) | (with_reducible refine Kd.C_drew ?_))); (case side2 => exact (Kd.R_reads' HO402.out).2.1); (case side3 => repeat (first | exact (Kd.R_reads' HO406.out).2.2 | (with_reducible refine Kd.C_alloc ?_ _) | (with_reducible refine Kd.C_drewN ?_ _) | (with_reducible refine Kd.C_drew ?_))); (case side4 => exact (Kd.R_reads' HO406.out).2.1); rintro e w' ⟨rfl, ⟨nd, rfl⟩⟩; refine ⟨_, rfl, ?_⟩))
         go_meet
         case rel => exact ⟨_, ((t400 != t404)), rf_, H', ⟨by have := HJ2.out; first | omega | exact Nat.le_refl _⟩, ⟨bel_⟩⟩
       · replace c21 := Bool.eq_false_iff.mpr c21
         subst c21
         have H1 : (clochelaw09_VeilsPairings.j1 kj2 l1 true) = some true := by rw [if_neg (show ¬ (false = true) by decide)] at H; exact H
         clear H
         have H := H1
         clear H1
         have H' := Aside0.mk H
         clear H
         obtain ⟨Ao24, co24, eo24⟩ := Kd.R_slice HO402.out
         subst eo24
         obtain ⟨Ao25, co25, eo25⟩ := Kd.R_slice HO406.out
         subst eo25
         go_wp2_with (first | ((with_reducible refine gate_callee (f := 24) rfl ?_); refine goesL_ (some 33) rfl rfl Try.func24 (by kernel_rfl) rfl #[.slice Ao24 t399.length co24, .slice Ao25 t403.length co25] rfl ar_ ?_; (with_reducible refine (clochelaw09_same.calls kj2 _ _ t399 _ _ t403 false _ ?side1 ?side2 ?side3 ?side4 A20.out).mono ?_); (case side1 => repeat (first | exact (Kd.R_reads' HO402.out).2.2 | (with_reducible refine Kd.C_alloc ?_ _) | (with_reducible refine Kd.C_drewN ?_ _) | (with_reducible refine Kd.C_drew ?_))); (case side2 => exact (Kd.R_reads' HO402.out).2.1); (case side3 => repeat (first | exact (Kd.R_reads' HO406.out).2.2 | (with_reducible refine Kd.C_alloc ?_ _) | (with_reducible refine Kd.C_drewN ?_ _) | (with_reducible refine Kd.C_drew ?_))); (case side4 => exact (Kd.R_reads' HO406.out).2.1); rintro e w' ⟨rfl, ⟨nd, rfl⟩⟩; refine ⟨_, rfl, ?_⟩))
         go_meet
         case rel => exact ⟨_, (true), rf_, H', ⟨by have := HJ2.out; first | omega | exact Nat.le_refl _⟩, ⟨bel_⟩⟩
      case rest =>
       clear HC17
       try clear c1
       try clear c2
       try clear p2
       try clear c5
       try clear c6
       try clear c12
       try clear c15
       try clear c21
       try clear c22
       try clear c23
       try clear c24
       try clear p2
       obtain ⟨kq, x39_16, rfl, HA, HJ16, HB⟩ := hcut
       cases kq with
       | zero => exact absurd HA.out (by simp [clochelaw09_VeilsPairings.j1])
       | succ kj16 =>
         have H := HA.out
         clear HA
         simp only [clochelaw09_VeilsPairings.j1] at H
         by_cases c26 : x39_16 = true
         · subst c26
           have H1 : (some false) = some true := by rw [if_pos rfl] at H; exact H
           clear H
           have H := H1
           clear H1
           exact absurd (Option.some.inj H) (by decide)
         · replace c26 := Bool.eq_false_iff.mpr c26
           subst c26
           have H1 : ((veils_Count.f kj16 l1).bind fun bt408 => ((clocheref09_Count.f kj16 l1).bind fun bt410 => (if bt408.1 = bt410.1 then (if bt408.2 = bt410.2 then ((clochelaw09_alive.f).bind fun t412 => (some t412)) else (some false)) else (some false)))) = some true := by rw [if_neg (show ¬ (false = true) by decide)] at H; exact H
           clear H
           have H := H1
           clear H1
           replace H := Option.bind_eq_some_iff.mp H
           obtain ⟨⟨t408, t409⟩, A270, H⟩ := H
           replace H : ((clocheref09_Count.f kj16 l1).bind fun bt410 => (if t408 = bt410.1 then (if t409 = bt410.2 then ((clochelaw09_alive.f).bind fun t412 => (some t412)) else (some false)) else (some false))) = some true := H
           have A27 := Aside0.mk A270
           clear A270
           replace H := Option.bind_eq_some_iff.mp H
           obtain ⟨⟨t410, t411⟩, A280, H⟩ := H
           replace H : (if t408 = t410 then (if t409 = t411 then ((clochelaw09_alive.f).bind fun t412 => (some t412)) else (some false)) else (some false)) = some true := H
           have A28 := Aside0.mk A280
           clear A280
           by_cases c29 : t408 = t410
           · rw [if_pos c29] at H
             have c29b0 : (t408 == t410) = true := beq_iff_eq.mpr c29
             have c29b1 : (t408 != t410) = false := bne_eq_false_iff_eq.mpr c29
             clear c29
             by_cases c30 : t409 = t411
             · rw [if_pos c30] at H
               have c30b0 : (t409 == t411) = true := beq_iff_eq.mpr c30
               have c30b1 : (t409 != t411) = false := bne_eq_false_iff_eq.mpr c30
               clear c30
               replace H := Option.bind_eq_some_iff.mp H
               obtain ⟨t412, A310, H⟩ := H
               replace H : (some t412) = some true := H
               have A31 := Aside0.mk A310
               clear A310
               have HT := Option.some.inj H
               subst HT
               go_wp2_with (first | ((with_reducible refine gate_callee (f := 17) rfl ?_); refine goesL_ (some 42) rfl rfl Try.func17 (by kernel_rfl) rfl #[.slice A1 l1.length c1] rfl ar_ ?_; (with_reducible refine (veils_Count.calls kj16 _ _ l1 t408 t409 _ ?side1 ?side2 A27.out).mono ?_); (case side1 => repeat (first | exact (Kd.C_below HR1.out HB.out) | (with_reducible refine Kd.C_alloc ?_ _) | (with_reducible refine Kd.C_drewN ?_ _) | (with_reducible refine Kd.C_drew ?_))); (case side2 => exact HC1.out); rintro e w32 ⟨rfl, hb⟩; refine ⟨_, rfl, ?_⟩; have n0_ := Aside0.mk (below_step (bel_) hb); clear HB; have HB := n0_; clear n0_; (try clear hb); (try clear hb2); (try clear hk); (try clear hi)) | ((with_reducible refine gate_callee (f := 25) rfl ?_); refine goesL_ (some 47) rfl rfl Try.func25 (by kernel_rfl) rfl #[.slice A1 l1.length c1] rfl ar_ ?_; (with_reducible refine (clocheref09_Count.calls kj16 _ _ l1 t410 t411 _ ?side1 ?side2 A28.out).mono ?_); (case side1 => repeat (first | exact (Kd.C_below HR1.out HB.out) | (with_reducible refine Kd.C_alloc ?_ _) | (with_reducible refine Kd.C_drewN ?_ _) | (with_reducible refine Kd.C_drew ?_))); (case side2 => exact HC1.out); rintro e w33 ⟨rfl, hb⟩; refine ⟨_, rfl, ?_⟩; have n0_ := Aside0.mk (below_step (bel_) hb); clear HB; have HB := n0_; clear n0_; (try clear hb); (try clear hb2); (try clear hk); (try clear hi)) | (go_at_call 15; (with_reducible refine (clochelaw09_alive.calls  true _ A31.out).mono ?_); rintro e w34 ⟨rfl, hb⟩; have n0_ := Aside0.mk (below_step (bel_) hb); clear HB; have HB := n0_; clear n0_; (try clear hb); (try clear hb2); (try clear hk); (try clear hi)))
               go_ret
               exact ⟨er_, bel_⟩
             · rw [if_neg c30] at H
               have c30b0 : (t409 == t411) = false := beq_eq_false_iff_ne.mpr c30
               have c30b1 : (t409 != t411) = true := bne_iff_ne.mpr c30
               exact absurd (Option.some.inj H) (by decide)
           · rw [if_neg c29] at H
             have c29b0 : (t408 == t410) = false := beq_eq_false_iff_ne.mpr c29
             have c29b1 : (t408 != t410) = true := bne_iff_ne.mpr c29
             exact absurd (Option.some.inj H) (by decide)
end Go.Proofs.Ytdinepghommchaa.V

/- What the walk of VeilsPairings computes is true for all inputs. -/
namespace Go.Proofs.Ytdinepghommchaa.V
open Go.RowKit Go.Proofs.YtdinepghommchaaW.PrintWords Go.Proofs.YtdinepghommchaaW.PrintLast Go.Proofs.YtdinepghommchaaW.PrintMore
set_option maxRecDepth 1000000 in
theorem readv_all : veilsAll.all (fun t => veils_read.f 200 t == some (t, true)) = true := by decide +kernel
theorem same1_l0 (p : List Int) (hp : p.length ≤ 50) : ∀ d k x, x + d = p.length → clochelaw09_same.l0 (k + d + 1) p p x = some true
 | 0, k, x, h => by rw [Nat.add_zero, clochelaw09_same.l0, if_neg (by omega)]
 | d + 1, k, x, h => by
  rw [show k + (d + 1) + 1 = (k + d + 1) + 1 from rfl, clochelaw09_same.l0, if_pos (by omega), if_pos (by omega), if_pos (by omega), if_pos rfl, wr_succ x (by omega)]
  exact same1_l0 p hp d k (x + 1) (by omega)
theorem same1_refl (p : List Int) (hp : p.length ≤ 50) : clochelaw09_same.f 100 p p = some true := by
 unfold clochelaw09_same.f
 rw [if_pos rfl]
 have := same1_l0 p hp p.length (99 - p.length) 0 (by omega)
 rw [show 99 - p.length + p.length + 1 = 100 by omega, show ((0 : Nat) : Int) = 0 from rfl] at this
 exact this
theorem rcount_l1 (l p : List Int) (L : List (List (List Int))) (c i : Int) (hl : p.length = l.length) (h50 : p.length ≤ 50) (B : Nat) : ∀ d x K, x + d = p.length → p.take x = l.take x → d + 3 + B ≤ K →
 ∃ K', B ≤ K' ∧ clocheref09_Count.l1 K l L c i p true x = clocheref09_Count.l0 K' l L (if p = l then wrap64 (c + 1) else c) (wrap64 (i + 1)) := by
 intro d
 induction d with
 | zero =>
  intro x K hx ht hK
  obtain ⟨K, rfl⟩ : ∃ m, K = m + 1 := ⟨K - 1, by omega⟩
  refine ⟨K, by omega, ?_⟩
  have e : p = l := by rwa [List.take_of_length_le (by omega), List.take_of_length_le (by omega)] at ht
  rw [clocheref09_Count.l1, if_neg (by omega), if_pos rfl, if_pos e]
 | succ d ih =>
  intro x K hx ht hK
  obtain ⟨K, rfl⟩ : ∃ m, K = m + 2 := ⟨K - 2, by omega⟩
  have h1 : x < p.length := by omega
  have h2 : x < l.length := by omega
  rw [show K + 2 = (K + 1) + 1 from rfl, clocheref09_Count.l1, if_pos (by omega), if_pos rfl, if_pos (by omega), if_pos (by omega), wr_succ x (by omega), rd_cast, rd_cast]
  have g1 : p.getD x 0 = p[x] := by rw [List.getD_eq_getElem?_getD, List.getElem?_eq_getElem h1]; rfl
  have g2 : l.getD x 0 = l[x] := by rw [List.getD_eq_getElem?_getD, List.getElem?_eq_getElem h2]; rfl
  by_cases e : p[x] = l[x]
  · rw [g1, g2, beq_iff_eq.mpr e]
    exact ih (x + 1) (K + 1) (by omega) (by rw [List.take_add_one, List.take_add_one, List.getElem?_eq_getElem h1, List.getElem?_eq_getElem h2, ht, e]) (by omega)
  · rw [g1, g2, beq_eq_false_iff_ne.mpr e]
    have hn : p ≠ l := fun h => e (by subst h; rfl)
    refine ⟨K, by omega, ?_⟩
    rw [clocheref09_Count.l1, if_neg hn]
    by_cases c1 : ((x + 1 : Nat) : Int) < (p.length : Int)
    · rw [if_pos c1, if_neg (by decide)]
    · rw [if_neg c1, if_neg (by decide)]
set_option maxRecDepth 100000 in
theorem rcount_l0 (l : List Int) (L : List (List (List Int))) (hl : l.length ≤ 50) (hL : L.length ≤ 900) : ∀ (ts : List (List (List Int))) (ps : List (List Int)) (i c K : Nat), L.drop i = ts → rtold ts ps = true → (∀ p ∈ ps, p.length ≤ 50) → i + ts.length = L.length → c ≤ i → ts.length * 60 + 2100 ≤ K →
 clocheref09_Count.l0 K l L c i = some (((c + many l ps : Nat) : Int), 0)
 | [], [], i, c, K, hd, _, _, hi, hc, hK => by
  obtain ⟨K, rfl⟩ : ∃ m, K = m + 1 := ⟨K - 1, by omega⟩
  simp only [List.length_nil] at hi
  rw [clocheref09_Count.l0, if_neg (by omega)]
  simp [many]
 | [], p :: ps, i, c, K, _, h, _, _, _, _ => by simp [rtold] at h
 | t :: ts, [], i, c, K, _, h, _, _, _, _ => by simp [rtold] at h
 | t :: ts, p :: ps, i, c, K, hd, h, hp, hi, hc, hK => by
  obtain ⟨K, rfl⟩ : ∃ m, K = m + 1 := ⟨K - 1, by omega⟩
  simp only [rtold, Bool.and_eq_true, beq_iff_eq] at h
  simp only [List.length_cons] at hi hK
  have hlt : i < L.length := by omega
  have e1 := List.drop_eq_getElem_cons hlt
  rw [hd] at e1
  injection e1 with e1 e2
  have g : L.getD i [] = t := by rw [List.getD_eq_getElem?_getD, List.getElem?_eq_getElem hlt, ← e1]; rfl
  have hp0 := hp p (List.mem_cons_self ..)
  have hq : ∀ q ∈ ps, q.length ≤ 50 := fun q hq => hp q (List.mem_cons_of_mem _ hq)
  rw [clocheref09_Count.l0, if_pos (by omega), if_pos (by omega), rdL2_cast, g, lift (fun k => clocheref09_pairing.mono t k) h.1 (show 2000 ≤ K by omega), Option.bind_some]
  have hw : wrap64 ((i : Int) + 1) = ((i + 1 : Nat) : Int) := by rw [wr _ (by omega)]; omega
  have hB : p.length + 3 + (ts.length * 60 + 2100) ≤ K := by omega
  have fin : ∃ K', ts.length * 60 + 2100 ≤ K' ∧ clocheref09_Count.l1 K l L c i p ((p.length : Int) == (l.length : Int)) 0 = clocheref09_Count.l0 K' l L (if p = l then wrap64 ((c : Int) + 1) else (c : Int)) (wrap64 ((i : Int) + 1)) := by
   by_cases el : p.length = l.length
   · have ebt : ((p.length : Int) == (l.length : Int)) = true := beq_iff_eq.mpr (by omega)
     rw [ebt]
     have := rcount_l1 l p L c i el hp0 (ts.length * 60 + 2100) p.length 0 K (by omega) (by rw [List.take_zero, List.take_zero]) hB
     exact this
   · rw [beq_eq_false_iff_ne.mpr (show (p.length : Int) ≠ (l.length : Int) by omega)]
     obtain ⟨K, rfl⟩ : ∃ m, K = m + 1 := ⟨K - 1, by omega⟩
     refine ⟨K, by omega, ?_⟩
     rw [clocheref09_Count.l1, if_neg (show ¬ p = l from fun e => el (by rw [e]))]
     by_cases c1 : (0 : Int) < (p.length : Int)
     · rw [if_pos c1, if_neg (by decide)]
     · rw [if_neg c1, if_neg (by decide)]
  obtain ⟨K', hK', e⟩ := fin
  rw [e, hw]
  simp only [many]
  by_cases ce : p = l
  · rw [if_pos ce, if_pos ce, wr _ (by omega), show (c : Int) + 1 = ((c + 1 : Nat) : Int) by omega, rcount_l0 l L hl hL ts ps (i + 1) (c + 1) K' (by rw [← e2]) h.2 hq (by omega) (by omega) hK']
    simp only [Option.some.injEq, Prod.mk.injEq, and_true]
    omega
  · rw [if_neg ce, if_neg ce, rcount_l0 l L hl hL ts ps (i + 1) c K' (by rw [← e2]) h.2 hq (by omega) (by omega) hK']
theorem rc_abs {n : Int} {I : Option Bool} {Z : Int → Option (List (List Int))} {F : List (List Int) → Option (List (List (List Int)))} {C : List (List (List Int)) → Option (Int × Int)} {z : List (List Int)} {L : List (List (List Int))} {r : Int × Int}
 (hI : I = some true) (hZ : Z n = some z) (hF : F z = some L) (hC : C L = some r) :
 (I.bind fun t381 => (if t381 = true then ((Z n).bind fun t382 => ((F t382).bind fun t385 => C t385)) else (some (0, 2)))) = some r := by
 subst hI
 simp [hZ, hF, hC]
theorem zeros_l0' (n : Nat) (hn : n ≤ 20) : ∀ d k i, i + d = n → clocheref09_zeros.l0 (k + d + 1) n (List.replicate i (List.replicate n 0)) i = some (List.replicate n (List.replicate n 0))
 | 0, k, i, h => by
  rw [Nat.add_zero, clocheref09_zeros.l0, if_neg (by omega)]
  rw [show i = n by omega]
 | d + 1, k, i, h => by
  rw [show k + (d + 1) + 1 = (k + d + 1) + 1 from rfl, clocheref09_zeros.l0, if_pos (by omega), if_pos (by omega), if_pos (by omega), if_pos (by rw [List.length_replicate]; omega), wr_succ i (by omega), Int.toNat_natCast]
  have e : List.replicate i (List.replicate n (0 : Int)) ++ [List.replicate n 0] = List.replicate (i + 1) (List.replicate n 0) := by
    rw [List.replicate_succ']
  rw [e]
  exact zeros_l0' n hn d k (i + 1) (by omega)
theorem zeros_spec' (n : Nat) (hn : n ≤ 20) (k : Nat) (hk : 30 ≤ k) : clocheref09_zeros.f k n = some (List.replicate n (List.replicate n 0)) := by
 have := zeros_l0' n hn n (k - n - 1) 0 (by omega)
 rw [show k - n - 1 + n + 1 = k by omega] at this
 exact this
theorem filled (n k : Nat) (h1 : 1 ≤ n) (h5 : n ≤ 5) : ∃ L, clocheref09_fill.f k (List.replicate n (List.replicate n 0)) 0 [] = some L ∧ rtold L (pairsOf n) = true ∧ L.length ≤ 900 := by
 have e : ∀ t, clocheref09_fill.f k t 0 [] = clocheref09_fill.f 100 t 0 [] := fun _ => rfl
 rw [e]
 have hn : n = 1 ∨ n = 2 ∨ n = 3 ∨ n = 4 ∨ n = 5 := by omega
 rcases hn with rfl | rfl | rfl | rfl | rfl
 · exact ⟨_, filled1, rpairings1, by decide +kernel⟩
 · exact ⟨_, filled2, rpairings2, by decide +kernel⟩
 · exact ⟨_, filled3, rpairings3, by decide +kernel⟩
 · exact ⟨_, filled4, rpairings4, by decide +kernel⟩
 · exact ⟨_, filled5, rpairings5, by decide +kernel⟩
theorem pairs_short (n : Nat) : ∀ p ∈ pairsOf n, p.length ≤ 50 := by
 match n with
 | 0 => simp [pairsOf]
 | 1 => show ∀ p ∈ pairs1, p.length ≤ 50; decide +kernel
 | 2 => show ∀ p ∈ pairs2, p.length ≤ 50; decide +kernel
 | 3 => show ∀ p ∈ pairs3, p.length ≤ 50; decide +kernel
 | 4 => show ∀ p ∈ pairs4, p.length ≤ 50; decide +kernel
 | 5 => show ∀ p ∈ pairs5, p.length ≤ 50; decide +kernel
 | n + 6 => simp [pairsOf]
/-- The specification's Count answers as the program's. -/
theorem rcount_spec (l : List Int) (hl : l.length ≤ 40) (k : Nat) (hk : 60000 ≤ k) : ∃ r, veils_Count.f k l = some r ∧ clocheref09_Count.f k l = some r := by
 obtain ⟨c1, c2⟩ := count_spec l (by omega)
 rcases isPairing_spec l with ⟨e, hp⟩ | ⟨e, hp⟩
 · refine ⟨_, lift (fun k => veils_Count.mono l k) (c1 hp) (by omega), ?_⟩
   have h2 := hp.two
   have h10 := hp.ten
   obtain ⟨L, f1, f2, f3⟩ := filled (l.length / 2) k (by omega) (by omega)
   have hw : wrap64 ((l.length : Int) / 2) = ((l.length / 2 : Nat) : Int) := by rw [wr _ (by omega)]; omega
   unfold clocheref09_Count.f
   refine rc_abs (Z := clocheref09_zeros.f k) (F := fun t => clocheref09_fill.f k t 0 []) (C := fun L => clocheref09_Count.l0 k l L 0 0) (lift (fun k => clocheref09_IsPairing.mono l k) e (by omega)) (by rw [hw]; exact zeros_spec' (l.length / 2) (by omega) k (by omega)) f1 ?_
   have := rcount_l0 l L (by omega) f3 L _ 0 0 k rfl f2 (pairs_short _) (by omega) (by omega) (by omega)
   rw [Nat.zero_add] at this
   exact this
 · refine ⟨_, lift (fun k => veils_Count.mono l k) (c2 hp) (by omega), ?_⟩
   unfold clocheref09_Count.f
   rw [lift (fun k => clocheref09_IsPairing.mono l k) e (show 100 ≤ k by omega)]
   rfl
theorem pe_abs {A B : Type} {rd : Option (A × Bool)} {t : A} {F : A × Bool → Option B} {z : Option B} (h : rd = some (t, false)) : (rd.bind fun bt => if bt.2 = true then F bt else z) = z := by subst h; rfl
theorem rp_abs {A : Type} {rd : Option Bool} {P : Option A} {p : A} {z : Option (A × Int)} (h : rd = some true) (hP : P = some p) : (rd.bind fun t370 => if t370 = true then (P.bind fun t371 => some (t371, 0)) else z) = some (p, 0) := by subst h hP; rfl
theorem rn_abs {A : Type} {rd : Option Bool} {P : Option A} {z : Option (A × Int)} (h : rd = some false) : (rd.bind fun t370 => if t370 = true then (P.bind fun t371 => some (t371, 0)) else z) = z := by subst h; rfl
theorem both_mem : ∀ (ts : List (List (List Int))) (ps : List (List Int)), told ts ps = true → rtold ts ps = true → ∀ t ∈ ts, ∃ p ∈ ps, pairOf t = some p ∧ clocheref09_pairing.f 2000 t = some p
 | [], _, _, _, t, h => by simp at h
 | t :: ts, [], h, _, _, _ => by simp [told] at h
 | t :: ts, p :: ps, h, k, u, hu => by
   simp only [told, Bool.and_eq_true, beq_iff_eq] at h
   simp only [rtold, Bool.and_eq_true, beq_iff_eq] at k
   rcases List.mem_cons.mp hu with rfl | hu
   · exact ⟨p, List.mem_cons_self .., h.1, k.1⟩
   · obtain ⟨q, hq, e⟩ := both_mem ts ps h.2 k.2 u hu
     exact ⟨q, List.mem_cons_of_mem _ hq, e⟩
theorem both_veil {t : List (List Int)} (h : Veil t.length t) : ∃ p, p.length ≤ 50 ∧ pairOf t = some p ∧ clocheref09_pairing.f 2000 t = some p := by
 have hm := h.mem
 have h1 := h.n1
 have h5 := h.n5
 generalize t.length = n at hm h1 h5
 have hn : n = 1 ∨ n = 2 ∨ n = 3 ∨ n = 4 ∨ n = 5 := by omega
 have fin : ∀ {n ts ps}, ps = pairsOf n → told ts ps = true → rtold ts ps = true → t ∈ ts → ∃ p, p.length ≤ 50 ∧ pairOf t = some p ∧ clocheref09_pairing.f 2000 t = some p := by
  intro n ts ps e h k hm
  obtain ⟨p, hp, h1, h2⟩ := both_mem ts ps h k t hm
  exact ⟨p, pairs_short n p (e ▸ hp), h1, h2⟩
 rcases hn with rfl | rfl | rfl | rfl | rfl
 · rw [veilsOf1] at hm; exact fin (n := 1) rfl pairings1 rpairings1 hm
 · rw [veilsOf2] at hm; exact fin (n := 2) rfl pairings2 rpairings2 hm
 · rw [veilsOf3] at hm; exact fin (n := 3) rfl pairings3 rpairings3 hm
 · rw [veilsOf4] at hm; exact fin (n := 4) rfl pairings4 rpairings4 hm
 · rw [veilsOf5] at hm; exact fin (n := 5) rfl pairings5 rpairings5 hm
theorem pairing2_abs {A B C : Type} {rd : Option (A × Bool)} {ra : A → Option B} {pa : B → Option C} {t : A} {hh : B} {p : C} {z : Option (C × Int)} (hr : rd = some (t, true)) (e1 : ra t = some hh) (e2 : pa hh = some p) :
 (rd.bind fun bt => if bt.2 = true then (ra bt.1).bind fun x => (pa x).bind fun y => some (y, 0) else z) = some (p, 0) := by
 subst hr
 simp [e1, e2]
/-- The specification's Pairing answers as the program's. -/
theorem rpairing_spec (t : List (List Int)) (k : Nat) (hk : 3000 ≤ k) : ∃ r : List Int × Int, r.1.length ≤ 50 ∧ veils_Pairing.f k t = some r ∧ clocheref09_Pairing.f k t = some r := by
 rcases read_spec t with e | ⟨e, hv⟩
 · refine ⟨([], 2), by simp, ?_, ?_⟩
   · unfold veils_Pairing.f
     exact pe_abs (lift (fun k => veils_read.mono t k) e (show 200 ≤ k by omega))
   · rcases isVeil_spec t with i | ⟨i, hv⟩
     · unfold clocheref09_Pairing.f
       exact rn_abs (lift (fun k => clocheref09_IsVeil.mono t k) i (show 100 ≤ k by omega))
     · exfalso
       have := of_veil (P := fun t => veils_read.f 200 t == some (t, true)) readv_all hv
       simp only [beq_iff_eq] at this
       rw [e] at this
       cases this
 · obtain ⟨p, hp, h1, h2⟩ := both_veil hv
   refine ⟨(p, 0), hp, ?_, ?_⟩
   · unfold pairOf at h1
     obtain ⟨hh, e1, e2⟩ := Option.bind_eq_some_iff.mp h1
     unfold veils_Pairing.f
     exact pairing2_abs (lift (fun k => veils_read.mono t k) e (show 200 ≤ k by omega)) e1 (lift (fun k => veils_heights_pairing.mono hh k) e2 (by omega))
   · have i : clocheref09_IsVeil.f 100 t = some true := by
      have := of_veil isv_all hv
      simpa using this
     unfold clocheref09_Pairing.f
     exact rp_abs (lift (fun k => clocheref09_IsVeil.mono t k) i (show 100 ≤ k by omega)) (lift (fun k => clocheref09_pairing.mono t k) h2 (by omega))
theorem pj0_abs {r : List Int × Int} {P R : Option (List Int × Int)} {S : List Int → List Int → Option Bool} {J : Bool → Option Bool} (hP : P = some r) (hR : R = some r) (hS : S r.1 r.1 = some true) (hJ : J false = some true) :
 (P.bind fun bt399 => (R.bind fun bt403 => ((S bt399.1 bt403.1).bind fun t407 => (if t407 = true then (J (bt399.2 != bt403.2)) else (J true))))) = some true := by
 subst hP hR
 simp [hS, hJ]
theorem pj1_abs {r : Int × Int} {P R : Option (Int × Int)} {al : Option Bool} (hP : P = some r) (hR : R = some r) (ha : al = some true) :
 (P.bind fun bt408 => (R.bind fun bt410 => (if bt408.1 = bt410.1 then (if bt408.2 = bt410.2 then (al.bind fun t412 => (some t412)) else (some false)) else (some false)))) = some true := by
 subst hP hR ha
 simp
theorem pair_go (k : Nat) (hk : 60000 ≤ k) (l0 : List (List Int)) (l1 : List Int) : clochelaw09_VeilsPairings.f (k + 2) l0 l1 = some true := by
 unfold clochelaw09_VeilsPairings.f
 obtain ⟨b, hb⟩ := few_spec [l0] (by simp)
 rw [lift (fun k => clochelaw09_few.mono [l0] k) hb (show 500 ≤ k + 2 by omega), Option.bind_some]
 have hT : clochelaw09_VeilsPairings.j0 (k + 2) l0 l1 true = some true := by rw [clochelaw09_VeilsPairings.j0, if_pos rfl]; rfl
 by_cases cb : b = true
 · rw [if_pos cb]
   by_cases c40 : (l1.length : Int) > 40
   · rw [decide_eq_true c40]; exact hT
   · rw [decide_eq_false c40, clochelaw09_VeilsPairings.j0, if_neg (by decide)]
     obtain ⟨r, h50, r1, r2⟩ := rpairing_spec l0 (k + 1) (by omega)
     refine pj0_abs (S := clochelaw09_same.f (k + 1)) (J := clochelaw09_VeilsPairings.j1 (k + 1) l1) r1 r2 (lift (fun k => clochelaw09_same.mono r.1 r.1 k) (same1_refl r.1 h50) (by omega)) ?_
     rw [clochelaw09_VeilsPairings.j1, if_neg (by decide)]
     obtain ⟨q, q1, q2⟩ := rcount_spec l1 (by omega) k hk
     exact pj1_abs q1 q2 rfl
 · rw [if_neg cb]; exact hT
theorem pair_true (l0 : List (List Int)) (l1 : List Int) : clochelaw09_VeilsPairings.f (60007 + 2) l0 l1 = some true := pair_go 60007 (by decide) l0 l1
end Go.Proofs.Ytdinepghommchaa.V
