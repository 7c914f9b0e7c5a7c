/- The walks and the pure laws under the claims of VeilsAll, VeilsPairings, VeilsSummed, part: Vf26, Vf27, Gp, Vf21, Ge, Op. -/
import Derived.Test.YtdinepghommchaaCb1
import Derived.Test.YtdinepghommchaaCb6
import Derived.Test.YtdinepghommchaaCb7
import Derived.Test.YtdinepghommchaaCb2
import Derived.Deep.Matrix
import Derived.OpenShut
import Derived.ChangeSlices
-- Written by a program of this session over the kit's printer: wip/gp.py.
namespace Go.Proofs.Ytdinepghommchaa.V
open Go.RowKit Go.Proofs.YtdinepghommchaaW.PrintWords Go.Proofs.YtdinepghommchaaW.PrintLast Go.Proofs.YtdinepghommchaaW.PrintMore
attribute [local go_sem] max2_int min2_int max_two min_two max_three min_three max_four min_four   -- for this text's walks alone
set_option linter.unusedVariables false
set_option linter.unusedSimpArgs false

/-! ### clocheref09_IsPairing: function 26 -/
mutual
def clocheref09_IsPairing.j0 : Nat → List Int → Bool → Option (Bool)
 | 0, _, _ => none
 | k + 1, x0, x17 => if x17 = true then (some false) else (clocheref09_IsPairing.l0 k x0 0)
def clocheref09_IsPairing.l0 : Nat → List Int → Int → Option (Bool)
 | 0, _, _ => none
 | k + 1, x0, x3 => if x3 < (x0.length : Int) then (if 0 ≤ x3 then (if (rd x0 x3) < 0 then (some false) else (if (rd x0 x3) ≥ (x0.length : Int) then (some false) else (if (rd x0 x3) = x3 then (some false) else (if 0 ≤ (rd x0 x3) then (if (rd x0 x3) < (x0.length : Int) then (if (rd x0 (rd x0 x3)) = x3 then (clocheref09_IsPairing.l0 k x0 (wrap64 (x3 + 1))) else (some false)) else (none)) else (none))))) else (none)) else (some true)
end
def clocheref09_IsPairing.f (k : Nat) (l0 : List Int) : Option (Bool) := if (l0.length : Int) < 2 then (clocheref09_IsPairing.j0 k l0 true) else (if (l0.length : Int) > 10 then (clocheref09_IsPairing.j0 k l0 true) else (clocheref09_IsPairing.j0 k l0 (((l0.length : Int) % 2) == 1)))
theorem clocheref09_IsPairing.mono_l : ∀ k, (∀ y0 y1, LeO (clocheref09_IsPairing.j0 k y0 y1) (clocheref09_IsPairing.j0 (k + 1) y0 y1)) ∧ (∀ y0 y1, LeO (clocheref09_IsPairing.l0 k y0 y1) (clocheref09_IsPairing.l0 (k + 1) y0 y1))
 | 0 => ⟨fun _ _ r h => by simp [clocheref09_IsPairing.j0] at h, fun _ _ r h => by simp [clocheref09_IsPairing.l0] at h⟩
 | k + 1 => by
  obtain ⟨ih0, ih1⟩ := clocheref09_IsPairing.mono_l k
  refine ⟨?_, ?_⟩
  · intro y0 y1
    unfold clocheref09_IsPairing.j0
    repeat' first
    | (with_reducible exact ih0 _ _)
    | (with_reducible exact ih1 _ _)
    | (with_reducible exact LeO.refl _)
    | (with_reducible exact LeO.none _)
    | (with_reducible refine LeO.ite ?_ ?_)
    | (with_reducible refine LeO.bind ?_ (fun _ => ?_))
    | exact ih0 _ _
    | exact ih1 _ _
    | exact LeO.none _
    | refine LeO.ite ?_ ?_
    | refine LeO.bind ?_ (fun _ => ?_)
  · intro y0 y1
    unfold clocheref09_IsPairing.l0
    repeat' first
    | (with_reducible exact ih0 _ _)
    | (with_reducible exact ih1 _ _)
    | (with_reducible exact LeO.refl _)
    | (with_reducible exact LeO.none _)
    | (with_reducible refine LeO.ite ?_ ?_)
    | (with_reducible refine LeO.bind ?_ (fun _ => ?_))
    | exact ih0 _ _
    | exact ih1 _ _
    | exact LeO.none _
    | refine LeO.ite ?_ ?_
    | refine LeO.bind ?_ (fun _ => ?_)
theorem clocheref09_IsPairing.mono : ∀ a0 k, LeO (clocheref09_IsPairing.f k a0) (clocheref09_IsPairing.f (k + 1) a0) := by
 intro a0 k
 obtain ⟨ih0, ih1⟩ := clocheref09_IsPairing.mono_l k
 unfold clocheref09_IsPairing.f
 repeat' first
  | (with_reducible exact ih0 _ _)
  | (with_reducible exact ih1 _ _)
  | (with_reducible exact LeO.refl _)
  | (with_reducible exact LeO.none _)
  | (with_reducible refine LeO.ite ?_ ?_)
  | (with_reducible refine LeO.bind ?_ (fun _ => ?_))
  | exact ih0 _ _
  | exact ih1 _ _
  | exact LeO.none _
  | refine LeO.ite ?_ ?_
  | refine LeO.bind ?_ (fun _ => ?_)
set_option maxHeartbeats 8000000 in
set_option maxRecDepth 100000 in
theorem clocheref09_IsPairing.calls (k : Nat) (A0 : Option Addr) (c0 : Nat) (l0 : List Int) (r : Bool) (w : World) (hr0 : Kd.C (Kd.int .i64) w A0 l0.length l0) (hc0 : l0.length ≤ c0) (h : clocheref09_IsPairing.f k l0 = some r) :
 Calls Try.prog 26 #[.slice A0 l0.length c0] w fun e w' => e = .returned (.bool r) ∧ Drawn0 w w' := by
 have HR0 := Aside0.mk hr0
 have HC0 := Aside0.mk hc0
 clear hr0 hc0
 have H : (if (l0.length : Int) < 2 then (clocheref09_IsPairing.j0 k l0 true) else (if (l0.length : Int) > 10 then (clocheref09_IsPairing.j0 k l0 true) else (clocheref09_IsPairing.j0 k l0 (((l0.length : Int) % 2) == 1)))) = some r := h
 clear h
 have HC2 := Aside0.mk H
 clear H
 go_enter Try.func26, Try.ntmps26
 go_upto_region 1 with (fail)
 go_cut [17] (fun v17 wc => ∃ (kq : Nat) (x17_1 : Bool), v17 = .bool x17_1 ∧ Aside0 (clocheref09_IsPairing.j0 kq l0 x17_1 = some r) ∧ Aside0 (kq ≤ k) ∧ Drawn0 w wc)
 case first =>
  have H := HC2.out
  clear HC2
  by_cases c3 : (l0.length : Int) < 2
  · rw [if_pos c3] at H
    have c3b0 : decide ((l0.length : Int) < 2) = true := decide_eq_true c3
    have c3b1 : decide (l0.length < 2) = true := decide_eq_true (by omega)
    clear c3
    (first | rw [c3b0] | (simp only [i64_w, i32_w]; rw [c3b0]) | skip)
    have H' := Aside0.mk H
    clear H
    go_wp2
    go_meet
    case rel => exact ⟨_, (true), rf_, H', ⟨by first | omega | exact Nat.le_refl _⟩, dr_⟩
  · rw [if_neg c3] at H
    have c3b0 : decide ((l0.length : Int) < 2) = false := decide_eq_false c3
    have c3b1 : decide (l0.length < 2) = false := decide_eq_false (by omega)
    clear c3
    (first | rw [c3b0] | (simp only [i64_w, i32_w]; rw [c3b0]) | skip)
    by_cases c4 : (l0.length : Int) > 10
    · rw [if_pos c4] at H
      have c4b0 : decide (10 < (l0.length : Int)) = true := decide_eq_true c4
      have c4b1 : decide (10 < l0.length) = true := decide_eq_true (by omega)
      clear c4
      have H' := Aside0.mk H
      clear H
      go_wp2
      go_meet
      case rel => exact ⟨_, (true), rf_, H', ⟨by first | omega | exact Nat.le_refl _⟩, dr_⟩
    · rw [if_neg c4] at H
      have c4b0 : decide (10 < (l0.length : Int)) = false := decide_eq_false c4
      have c4b1 : decide (10 < l0.length) = false := decide_eq_false (by omega)
      clear c4
      have H' := Aside0.mk H
      clear H
      go_wp2
      go_meet
      case rel => exact ⟨_, ((((l0.length : Int) % 2) == 1)), rf_, H', ⟨by first | omega | exact Nat.le_refl _⟩, dr_⟩
 case rest =>
  clear HC2
  try clear c2
  try clear p2
  try clear c3
  try clear c3b0
  try clear c3b1
  try clear c4
  try clear c4b0
  try clear c4b1
  obtain ⟨kq, x17_1, rfl, HA, HJ1, ⟨mc1, rfl⟩⟩ := hcut
  cases kq with
  | zero => exact absurd HA.out (by simp [clocheref09_IsPairing.j0])
  | succ kj1 =>
   have H := HA.out
   clear HA
   simp only [clocheref09_IsPairing.j0] at H
   by_cases c5 : x17_1 = true
   · subst c5
     have H1 : (some false) = some r := by rw [if_pos rfl] at H; exact H
     clear H
     have H := H1
     clear H1
     obtain rfl := Option.some.inj H
     go_wp2
     go_ret
     exact ⟨rf_, dr_⟩
   · replace c5 := Bool.eq_false_iff.mpr c5
     subst c5
     have H1 : (clocheref09_IsPairing.l0 kj1 l0 0) = some r := by rw [if_neg (show ¬ (false = true) by decide)] at H; exact H
     clear H
     have H := H1
     clear H1
     have H' := Aside0.mk H
     clear H
     go_wp2
     go_loopg [3] kj1 (fun kq v3 w' => ∃ (x3_2 : Int), v3 = .int .i64 x3_2 ∧ Aside0 (clocheref09_IsPairing.l0 kq l0 x3_2 = some r) ∧ Aside0 (kq ≤ kj1) ∧ Drawn0 w w')
     case atStart => exact ⟨(0), rf_, H', ⟨Nat.le_refl _⟩, dr_⟩
     case round =>
      clear H'
      try clear c1
      try clear c2
      try clear p2
      try clear c3
      try clear c3b0
      try clear c3b1
      try clear c4
      try clear c4b0
      try clear c4b1
      try clear c5
      try clear p2
      obtain ⟨x3_2, rfl, HA, HK2, ⟨m2, rfl⟩⟩ := hrel
      cases gk with
      | zero => exact absurd HA.out (by simp [clocheref09_IsPairing.l0])
      | succ k2 =>
       have H := HA.out
       clear HA
       simp only [clocheref09_IsPairing.l0] at H
       by_cases c6 : x3_2 < (l0.length : Int)
       · rw [if_pos c6] at H
         have c6b0 : decide (x3_2 < (l0.length : Int)) = true := decide_eq_true c6
         clear c6
         by_cases c7 : 0 ≤ x3_2
         · rw [if_pos c7] at H
           have c7b0 : decide (0 ≤ x3_2) = true := decide_eq_true c7
           clear c7
           by_cases c8 : (rd l0 x3_2) < 0
           · rw [if_pos c8] at H
             have c8b0 : decide ((rd l0 x3_2) < 0) = true := decide_eq_true c8
             clear c8
             obtain rfl := Option.some.inj H
             obtain ⟨ad376, e376, hx376_0, p376, q376⟩ := ai_ HR0.out x3_2
             cases e376
             go_wp2
             go_ret
             exact ⟨rf_, dr_⟩
           · rw [if_neg c8] at H
             have c8b0 : decide ((rd l0 x3_2) < 0) = false := decide_eq_false c8
             clear c8
             by_cases c9 : (rd l0 x3_2) ≥ (l0.length : Int)
             · rw [if_pos c9] at H
               have c9b0 : decide ((l0.length : Int) ≤ (rd l0 x3_2)) = true := decide_eq_true c9
               clear c9
               obtain rfl := Option.some.inj H
               obtain ⟨ad376, e376, hx376_0, p376, q376⟩ := ai_ HR0.out x3_2
               cases e376
               obtain ⟨ad377, e377, hx377_0, p377, q377⟩ := ai_ HR0.out x3_2
               obtain rfl : ad376 = ad377 := (by injection e377)
               go_wp2
               go_ret
               exact ⟨rf_, dr_⟩
             · rw [if_neg c9] at H
               have c9b0 : decide ((l0.length : Int) ≤ (rd l0 x3_2)) = false := decide_eq_false c9
               clear c9
               by_cases c10 : (rd l0 x3_2) = x3_2
               · rw [if_pos c10] at H
                 have c10b0 : ((rd l0 x3_2) == x3_2) = true := beq_iff_eq.mpr c10
                 have c10b1 : ((rd l0 x3_2) != x3_2) = false := bne_eq_false_iff_eq.mpr c10
                 clear c10
                 obtain rfl := Option.some.inj H
                 obtain ⟨ad376, e376, hx376_0, p376, q376⟩ := ai_ HR0.out x3_2
                 cases e376
                 obtain ⟨ad377, e377, hx377_0, p377, q377⟩ := ai_ HR0.out x3_2
                 obtain rfl : ad376 = ad377 := (by injection e377)
                 obtain ⟨ad378, e378, hx378_0, p378, q378⟩ := ai_ HR0.out x3_2
                 obtain rfl : ad376 = ad378 := (by injection e378)
                 go_wp2
                 go_ret
                 exact ⟨rf_, dr_⟩
               · rw [if_neg c10] at H
                 have c10b0 : ((rd l0 x3_2) == x3_2) = false := beq_eq_false_iff_ne.mpr c10
                 have c10b1 : ((rd l0 x3_2) != x3_2) = true := bne_iff_ne.mpr c10
                 by_cases c11 : 0 ≤ (rd l0 x3_2)
                 · rw [if_pos c11] at H
                   have c11b0 : decide (0 ≤ (rd l0 x3_2)) = true := decide_eq_true c11
                   clear c11
                   by_cases c12 : (rd l0 x3_2) < (l0.length : Int)
                   · rw [if_pos c12] at H
                     have c12b0 : decide ((rd l0 x3_2) < (l0.length : Int)) = true := decide_eq_true c12
                     clear c12
                     by_cases c13 : (rd l0 (rd l0 x3_2)) = x3_2
                     · rw [if_pos c13] at H
                       have c13b0 : ((rd l0 (rd l0 x3_2)) == x3_2) = true := beq_iff_eq.mpr c13
                       have c13b1 : ((rd l0 (rd l0 x3_2)) != x3_2) = false := bne_eq_false_iff_eq.mpr c13
                       clear c13
                       have H' := Aside0.mk H
                       clear H
                       obtain ⟨ad376, e376, hx376_0, p376, q376⟩ := ai_ HR0.out x3_2
                       cases e376
                       obtain ⟨ad377, e377, hx377_0, p377, q377⟩ := ai_ HR0.out x3_2
                       obtain rfl : ad376 = ad377 := (by injection e377)
                       obtain ⟨ad378, e378, hx378_0, p378, q378⟩ := ai_ HR0.out x3_2
                       obtain rfl : ad376 = ad378 := (by injection e378)
                       obtain ⟨ad379, e379, hx379_0, p379, q379⟩ := ai_ HR0.out x3_2
                       obtain rfl : ad376 = ad379 := (by injection e379)
                       obtain ⟨ad380, e380, hx380_0, p380, q380⟩ := ai_ HR0.out (rd l0 x3_2)
                       obtain rfl : ad376 = ad380 := (by injection e380)
                       go_wp2
                       go_roundg k2
                       case measure => have := HJ1.out; have := HK2.out; omega
                       case rel => exact ⟨(wrap64 (x3_2 + 1)), rf_, H', ⟨by have := HJ1.out; have := HK2.out; omega⟩, dr_⟩
                     · rw [if_neg c13] at H
                       have c13b0 : ((rd l0 (rd l0 x3_2)) == x3_2) = false := beq_eq_false_iff_ne.mpr c13
                       have c13b1 : ((rd l0 (rd l0 x3_2)) != x3_2) = true := bne_iff_ne.mpr c13
                       obtain rfl := Option.some.inj H
                       obtain ⟨ad376, e376, hx376_0, p376, q376⟩ := ai_ HR0.out x3_2
                       cases e376
                       obtain ⟨ad377, e377, hx377_0, p377, q377⟩ := ai_ HR0.out x3_2
                       obtain rfl : ad376 = ad377 := (by injection e377)
                       obtain ⟨ad378, e378, hx378_0, p378, q378⟩ := ai_ HR0.out x3_2
                       obtain rfl : ad376 = ad378 := (by injection e378)
                       obtain ⟨ad379, e379, hx379_0, p379, q379⟩ := ai_ HR0.out x3_2
                       obtain rfl : ad376 = ad379 := (by injection e379)
                       obtain ⟨ad380, e380, hx380_0, p380, q380⟩ := ai_ HR0.out (rd l0 x3_2)
                       obtain rfl : ad376 = ad380 := (by injection e380)
                       go_wp2
                       go_ret
                       exact ⟨rf_, dr_⟩
                   · rw [if_neg c12] at H
                     exact absurd H (by simp)
                 · rw [if_neg c11] at H
                   exact absurd H (by simp)
         · rw [if_neg c7] at H
           exact absurd H (by simp)
       · rw [if_neg c6] at H
         have c6b0 : decide (x3_2 < (l0.length : Int)) = false := decide_eq_false c6
         clear c6
         obtain rfl := Option.some.inj H
         go_wp2
         go_ret
         exact ⟨rf_, dr_⟩

end Go.Proofs.Ytdinepghommchaa.V

-- Written by a program of this session over the kit's printer: wip/gp.py.
namespace Go.Proofs.Ytdinepghommchaa.V
open Go.RowKit Go.Proofs.YtdinepghommchaaW.PrintWords Go.Proofs.YtdinepghommchaaW.PrintLast Go.Proofs.YtdinepghommchaaW.PrintMore
attribute [local go_sem] max2_int min2_int max_two min_two max_three min_three max_four min_four   -- for this text's walks alone
set_option linter.unusedVariables false
set_option linter.unusedSimpArgs false

/-! ### clochelaw09_crosses: function 27 -/
mutual
def clochelaw09_crosses.l0 : Nat → List Int → Int → Option (Bool)
 | 0, _, _ => none
 | k + 1, x0, x3 => if x3 < (x0.length : Int) then (clochelaw09_crosses.l1 k x0 x3 (wrap64 (x3 + 1))) else (some false)
def clochelaw09_crosses.l1 : Nat → List Int → Int → Int → Option (Bool)
 | 0, _, _, _ => none
 | k + 1, x0, x3, x4 => if 0 ≤ x3 then (if x3 < (x0.length : Int) then (if x4 < (rd x0 x3) then (if 0 ≤ x4 then (if x4 < (x0.length : Int) then (if (rd x0 x4) > (rd x0 x3) then (some true) else (clochelaw09_crosses.l1 k x0 x3 (wrap64 (x4 + 1)))) else (none)) else (none)) else (clochelaw09_crosses.l0 k x0 (wrap64 (x3 + 1)))) else (none)) else (none)
end
def clochelaw09_crosses.f (k : Nat) (l0 : List Int) : Option (Bool) := clochelaw09_crosses.l0 k l0 0
end Go.Proofs.Ytdinepghommchaa.V

/- What Count and the specification's IsPairing answer: for a pairing of up to ten ends, how many of the listed veils have it; there are only so many pairings. -/
namespace Go.Proofs.Ytdinepghommchaa.V
open Go.RowKit Go.Proofs.YtdinepghommchaaW.PrintWords Go.Proofs.YtdinepghommchaaW.PrintLast Go.Proofs.YtdinepghommchaaW.PrintMore
def good (l : List Int) (m : Nat) : Prop := 0 ≤ l.getD m 0 ∧ l.getD m 0 < (l.length : Int) ∧ l.getD m 0 ≠ (m : Int) ∧ l.getD (l.getD m 0).toNat 0 = (m : Int)
/-- A list pairs off its ends. -/
structure Pr (l : List Int) : Prop where
 two : 2 ≤ l.length
 ten : l.length ≤ 10
 even : l.length % 2 = 0
 good : ∀ m, m < l.length → good l m
theorem isPairing_l0 (l : List Int) (hl : l.length ≤ 50) : ∀ d k x, x + d = l.length →
 (clocheref09_IsPairing.l0 (k + d + 1) l x = some true ∧ ∀ m, x ≤ m → m < l.length → good l m) ∨ (clocheref09_IsPairing.l0 (k + d + 1) l x = some false ∧ ¬ ∀ m, x ≤ m → m < l.length → good l m)
 | 0, k, x, h => by
  left
  refine ⟨?_, fun m a b => by omega⟩
  rw [Nat.add_zero, clocheref09_IsPairing.l0, if_neg (by omega)]
 | d + 1, k, x, h => by
  rw [show k + (d + 1) + 1 = (k + d + 1) + 1 from rfl, clocheref09_IsPairing.l0, if_pos (by omega), if_pos (by omega), rd_cast]
  by_cases c1 : l.getD x 0 < 0
  · right; rw [if_pos c1]; exact ⟨rfl, fun hh => by have := (hh x (by omega) (by omega)).1; omega⟩
  rw [if_neg c1]
  by_cases c2 : l.getD x 0 ≥ (l.length : Int)
  · right; rw [if_pos c2]; exact ⟨rfl, fun hh => by have := (hh x (by omega) (by omega)).2.1; omega⟩
  rw [if_neg c2]
  by_cases c3 : l.getD x 0 = (x : Int)
  · right; rw [if_pos c3]; exact ⟨rfl, fun hh => (hh x (by omega) (by omega)).2.2.1 c3⟩
  rw [if_neg c3, if_pos (by omega), if_pos (by omega)]
  by_cases c4 : rd l (l.getD x 0) = (x : Int)
  · rw [if_pos c4, wr_succ x (by omega)]
    rcases isPairing_l0 l hl d k (x + 1) (by omega) with ⟨e, ih⟩ | ⟨e, ih⟩
    · left
      refine ⟨e, fun m a b => ?_⟩
      by_cases hm : m = x
      · subst hm; exact ⟨by omega, by omega, c3, c4⟩
      · exact ih m (by omega) b
    · right; exact ⟨e, fun hh => ih fun m a b => hh m (by omega) b⟩
  · right; rw [if_neg c4]; exact ⟨rfl, fun hh => c4 (hh x (by omega) (by omega)).2.2.2⟩
theorem isPairing_spec (l : List Int) : (clocheref09_IsPairing.f 100 l = some true ∧ Pr l) ∨ (clocheref09_IsPairing.f 100 l = some false ∧ ¬ Pr l) := by
 unfold clocheref09_IsPairing.f
 by_cases c1 : (l.length : Int) < 2
 · right; rw [if_pos c1, clocheref09_IsPairing.j0, if_pos rfl]; exact ⟨rfl, fun h => by have := h.two; omega⟩
 rw [if_neg c1]
 by_cases c2 : (l.length : Int) > 10
 · right; rw [if_pos c2, clocheref09_IsPairing.j0, if_pos rfl]; exact ⟨rfl, fun h => by have := h.ten; omega⟩
 rw [if_neg c2]
 by_cases c3 : (l.length : Int) % 2 = 1
 · right; rw [beq_iff_eq.mpr c3, clocheref09_IsPairing.j0, if_pos rfl]; exact ⟨rfl, fun h => by have := h.even; omega⟩
 rw [beq_eq_false_iff_ne.mpr c3, clocheref09_IsPairing.j0, if_neg (by decide)]
 rcases isPairing_l0 l (by omega) l.length (98 - l.length) 0 (by omega) with ⟨e, h⟩ | ⟨e, h⟩
 · left
   rw [show 98 - l.length + l.length + 1 = 99 by omega] at e
   exact ⟨e, by omega, by omega, by omega, fun m hm => h m (by omega) hm⟩
 · right
   rw [show 98 - l.length + l.length + 1 = 99 by omega] at e
   exact ⟨e, fun hp => h fun m _ hm => hp.good m hm⟩

theorem equal_l0 (p l : List Int) (hl : p.length ≤ 50) (h2 : p.length = l.length) : ∀ d k x, x + d = p.length → slices_Equal_int_int.l0 (k + d + 1) p l p.length x = some (decide (p.drop x = l.drop x))
 | 0, k, x, h => by
   rw [Nat.add_zero, slices_Equal_int_int.l0, if_neg (by omega), List.drop_of_length_le (by omega), List.drop_of_length_le (by omega)]
   rfl
 | d + 1, k, x, h => by
   have h1 : x < p.length := by omega
   have h3 : x < l.length := by omega
   rw [show k + (d + 1) + 1 = (k + d + 1) + 1 from rfl, slices_Equal_int_int.l0, if_pos (by omega), if_pos (by omega), if_pos (by omega), if_pos (by omega), rd_cast, rd_cast, List.getD_eq_getElem?_getD, List.getD_eq_getElem?_getD, List.getElem?_eq_getElem h1, List.getElem?_eq_getElem h3]
   simp only [Option.getD_some]
   have e1 := List.drop_eq_getElem_cons h1
   have e2 := List.drop_eq_getElem_cons h3
   by_cases c : p[x] = l[x]
   · rw [if_pos c, wr_succ x (by omega), equal_l0 p l hl h2 d k (x + 1) (by omega)]
     have : (p.drop (x + 1) = l.drop (x + 1)) ↔ (p.drop x = l.drop x) := ⟨fun hh => by rw [e1, e2, c, hh], fun hh => by rw [e1, e2] at hh; injection hh⟩
     rw [decide_eq_decide.mpr this]
   · rw [if_neg c]
     have : ¬ p.drop x = l.drop x := by
      rw [e1, e2]
      intro hh
      injection hh with ha hb
      exact c ha
     rw [decide_eq_false this]
theorem equal_spec (p l : List Int) (hl : p.length ≤ 50) : slices_Equal_int_int.f 1000 p l = some (decide (p = l)) := by
 unfold slices_Equal_int_int.f
 by_cases c : (p.length : Int) = (l.length : Int)
 · rw [if_pos c]
   have := equal_l0 p l hl (by omega) p.length (999 - p.length) 0 (by omega)
   rw [show 999 - p.length + p.length + 1 = 1000 by omega, List.drop_zero, List.drop_zero] at this
   exact this
 · rw [if_neg c]
   have : p ≠ l := fun e => c (by rw [e])
   simp [this]

/-- How many of a list are this one. -/
def many (l : List Int) : List (List Int) → Nat
 | [] => 0
 | p :: ps => if p = l then many l ps + 1 else many l ps
theorem count_fold (l : List Int) : ∀ ts ps (k : Nat), told ts ps = true → (∀ p ∈ ps, p.length ≤ 50) → k + ps.length ≤ 900 →
 foldO (fun t k => veils_Count1.f l t k) ts (k : Int) = some ((k + many l ps : Nat) : Int)
 | [], [], k, _, _, _ => by simp [foldO, many]
 | [], p :: ps, k, h, _, _ => by simp [told] at h
 | t :: ts, [], k, h, _, _ => by simp [told] at h
 | t :: ts, p :: ps, k, h, hp, hk => by
   simp only [told, Bool.and_eq_true, beq_iff_eq] at h
   obtain ⟨h1, h2⟩ := h
   have e : veils_Count1.f l t (k : Int) = some (if p = l then wrap64 ((k : Int) + 1) else (k : Int)) := by
    unfold pairOf at h1
    obtain ⟨hh, e1, e2⟩ := Option.bind_eq_some_iff.mp h1
    unfold veils_Count1.f
    rw [e1]
    simp only [Option.bind_some, e2, equal_spec p l (hp p (List.mem_cons_self ..))]
    by_cases c : p = l <;> simp [c]
   simp only [foldO, e, Option.bind_some, many]
   simp only [List.length_cons] at hk
   have hq : ∀ p ∈ ps, p.length ≤ 50 := fun q hq => hp q (List.mem_cons_of_mem _ hq)
   by_cases c : p = l
   · rw [if_pos c, if_pos c, wr _ (by omega), show (k : Int) + 1 = ((k + 1 : Nat) : Int) by omega, count_fold l ts ps (k + 1) h2 hq (by omega)]
     simp only [Option.some.injEq]; omega
   · rw [if_neg c, if_neg c, count_fold l ts ps k h2 hq (by omega)]
/-- The pairings of the veils of a size. -/
def pairsOf : Nat → List (List Int)
 | 1 => pairs1
 | 2 => pairs2
 | 3 => pairs3
 | 4 => pairs4
 | 5 => pairs5
 | _ => []
theorem cnt_spec (l : List Int) (n : Nat) (h1 : 1 ≤ n) (h5 : n ≤ 5) : veils_cnt.f l n = some ((many l (pairsOf n) : Nat) : Int) := by
 unfold veils_cnt.f
 rw [if_pos ⟨by omega, by omega⟩, Int.toNat_natCast]
 have hn : n = 1 ∨ n = 2 ∨ n = 3 ∨ n = 4 ∨ n = 5 := by omega
 rcases hn with rfl | rfl | rfl | rfl | rfl
 · rw [all_fold found1]; have := count_fold l _ _ 0 pairings1 (by decide +kernel) (by decide +kernel); simpa [pairsOf] using this
 · rw [all_fold found2]; have := count_fold l _ _ 0 pairings2 (by decide +kernel) (by decide +kernel); simpa [pairsOf] using this
 · rw [all_fold found3]; have := count_fold l _ _ 0 pairings3 (by decide +kernel) (by decide +kernel); simpa [pairsOf] using this
 · rw [all_fold found4]; have := count_fold l _ _ 0 pairings4 (by decide +kernel) (by decide +kernel); simpa [pairsOf] using this
 · rw [all_fold found5]; have := count_fold l _ _ 0 pairings5 (by decide +kernel) (by decide +kernel); simpa [pairsOf] using this
theorem count_l0 (l : List Int) (n : Int) (hl : l.length ≤ 50) : ∀ d k x, x + d = l.length →
 ((∀ m, x ≤ m → m < l.length → good l m) → veils_Count.l0 (k + d + 1) l n l l.length x = (veils_cnt.f l n).bind fun t => some (t, 0)) ∧
 ((¬ ∀ m, x ≤ m → m < l.length → good l m) → veils_Count.l0 (k + d + 1) l n l l.length x = some (0, 2))
 | 0, k, x, h => by
   refine ⟨fun _ => ?_, fun hh => absurd (fun m a b => by omega) hh⟩
   rw [Nat.add_zero, veils_Count.l0, if_neg (by omega)]
 | d + 1, k, x, h => by
   rw [show k + (d + 1) + 1 = (k + d + 1) + 1 from rfl, veils_Count.l0, if_pos (by omega), if_pos (by omega), if_pos (by omega), rd_cast]
   by_cases c1 : l.getD x 0 < 0
   · rw [if_pos c1]; exact ⟨fun hh => by have := (hh x (by omega) (by omega)).1; omega, fun _ => rfl⟩
   rw [if_neg c1]
   by_cases c2 : l.getD x 0 ≥ (l.length : Int)
   · rw [if_pos c2]; exact ⟨fun hh => by have := (hh x (by omega) (by omega)).2.1; omega, fun _ => rfl⟩
   rw [if_neg c2]
   by_cases c3 : l.getD x 0 = (x : Int)
   · rw [if_pos c3]; exact ⟨fun hh => absurd c3 (hh x (by omega) (by omega)).2.2.1, fun _ => rfl⟩
   rw [if_neg c3, if_pos (by omega), if_pos (by omega)]
   by_cases c4 : rd l (l.getD x 0) = (x : Int)
   · rw [if_pos c4, wr_succ x (by omega)]
     obtain ⟨i1, i2⟩ := count_l0 l n hl d k (x + 1) (by omega)
     refine ⟨fun hh => i1 fun m a b => hh m (by omega) b, fun hh => i2 fun hg => hh fun m a b => ?_⟩
     by_cases hm : m = x
     · subst hm; exact ⟨by omega, by omega, c3, c4⟩
     · exact hg m (by omega) b
   · rw [if_neg c4]; exact ⟨fun hh => absurd (hh x (by omega) (by omega)).2.2.2 c4, fun _ => rfl⟩
theorem count_spec (l : List Int) (hl : l.length ≤ 50) : (Pr l → veils_Count.f 100 l = some (((many l (pairsOf (l.length / 2)) : Nat) : Int), 0)) ∧ (¬ Pr l → veils_Count.f 100 l = some (0, 2)) := by
 unfold veils_Count.f
 have hw : wrap64 ((l.length : Int) / 2) = ((l.length / 2 : Nat) : Int) := by rw [wr _ (by omega)]; omega
 rw [hw]
 by_cases c1 : (l.length : Int) % 2 = 1
 · rw [if_pos c1, veils_Count.j0, if_pos rfl]; exact ⟨fun h => by have := h.even; omega, fun _ => rfl⟩
 rw [if_neg c1]
 by_cases c2 : ((l.length / 2 : Nat) : Int) < 1
 · rw [if_pos c2, veils_Count.j0, if_pos rfl]; exact ⟨fun h => by have := h.two; omega, fun _ => rfl⟩
 rw [if_neg c2]
 by_cases c3 : ((l.length / 2 : Nat) : Int) > 5
 · rw [decide_eq_true c3, veils_Count.j0, if_pos rfl]; exact ⟨fun h => by have := h.ten; omega, fun _ => rfl⟩
 rw [decide_eq_false c3, veils_Count.j0, if_neg (by decide)]
 obtain ⟨i1, i2⟩ := count_l0 l ((l.length / 2 : Nat) : Int) hl l.length (98 - l.length) 0 (by omega)
 rw [show 98 - l.length + l.length + 1 = 99 by omega] at i1 i2
 rw [show ((0 : Nat) : Int) = 0 from rfl] at i1 i2
 refine ⟨fun h => ?_, fun h => i2 fun hg => h ⟨by omega, by omega, by omega, fun m hm => hg m (by omega) hm⟩⟩
 rw [i1 fun m _ hm => h.good m hm, cnt_spec l _ (by omega) (by omega)]
 rfl
end Go.Proofs.Ytdinepghommchaa.V

-- Written by a program of this session over the kit's printer: wip/gp.py.
namespace Go.Proofs.Ytdinepghommchaa.V
open Go.RowKit Go.Proofs.YtdinepghommchaaW.PrintWords Go.Proofs.YtdinepghommchaaW.PrintLast Go.Proofs.YtdinepghommchaaW.PrintMore
attribute [local go_sem] max2_int min2_int max_two min_two max_three min_three max_four min_four   -- for this text's walks alone
set_option linter.unusedVariables false
set_option linter.unusedSimpArgs false

/-! ### clochelaw09_few: function 21 -/
mutual
def clochelaw09_few.l0 : Nat → List (List (List Int)) → Int → Option (Bool)
 | 0, _, _ => none
 | k + 1, x0, x3 => if x3 < (x0.length : Int) then (if 0 ≤ x3 then (if ((rd_L2 x0 x3).length : Int) > 20 then (some false) else (clochelaw09_few.l1 k x0 x3 0)) else (none)) else (some true)
def clochelaw09_few.l1 : Nat → List (List (List Int)) → Int → Int → Option (Bool)
 | 0, _, _, _ => none
 | k + 1, x0, x3, x4 => if 0 ≤ x3 then (if x3 < (x0.length : Int) then (if x4 < ((rd_L2 x0 x3).length : Int) then (if 0 ≤ x4 then (if ((rd_L1 (rd_L2 x0 x3) x4).length : Int) > 20 then (some false) else (clochelaw09_few.l1 k x0 x3 (wrap64 (x4 + 1)))) else (none)) else (clochelaw09_few.l0 k x0 (wrap64 (x3 + 1)))) else (none)) else (none)
end
def clochelaw09_few.f (k : Nat) (l0 : List (List (List Int))) : Option (Bool) := clochelaw09_few.l0 k l0 0
theorem clochelaw09_few.mono_l : ∀ k, (∀ y0 y1, LeO (clochelaw09_few.l0 k y0 y1) (clochelaw09_few.l0 (k + 1) y0 y1)) ∧ (∀ y0 y1 y2, LeO (clochelaw09_few.l1 k y0 y1 y2) (clochelaw09_few.l1 (k + 1) y0 y1 y2))
 | 0 => ⟨fun _ _ r h => by simp [clochelaw09_few.l0] at h, fun _ _ _ r h => by simp [clochelaw09_few.l1] at h⟩
 | k + 1 => by
  obtain ⟨ih0, ih1⟩ := clochelaw09_few.mono_l k
  refine ⟨?_, ?_⟩
  · intro y0 y1
    unfold clochelaw09_few.l0
    repeat' first
    | (with_reducible exact ih0 _ _)
    | (with_reducible exact ih1 _ _ _)
    | (with_reducible exact LeO.refl _)
    | (with_reducible exact LeO.none _)
    | (with_reducible refine LeO.ite ?_ ?_)
    | (with_reducible refine LeO.bind ?_ (fun _ => ?_))
    | exact ih0 _ _
    | exact ih1 _ _ _
    | exact LeO.none _
    | refine LeO.ite ?_ ?_
    | refine LeO.bind ?_ (fun _ => ?_)
  · intro y0 y1 y2
    unfold clochelaw09_few.l1
    repeat' first
    | (with_reducible exact ih0 _ _)
    | (with_reducible exact ih1 _ _ _)
    | (with_reducible exact LeO.refl _)
    | (with_reducible exact LeO.none _)
    | (with_reducible refine LeO.ite ?_ ?_)
    | (with_reducible refine LeO.bind ?_ (fun _ => ?_))
    | exact ih0 _ _
    | exact ih1 _ _ _
    | exact LeO.none _
    | refine LeO.ite ?_ ?_
    | refine LeO.bind ?_ (fun _ => ?_)
theorem clochelaw09_few.mono : ∀ a0 k, LeO (clochelaw09_few.f k a0) (clochelaw09_few.f (k + 1) a0) := by
 intro a0 k
 obtain ⟨ih0, ih1⟩ := clochelaw09_few.mono_l k
 unfold clochelaw09_few.f
 repeat' first
  | (with_reducible exact ih0 _ _)
  | (with_reducible exact ih1 _ _ _)
  | (with_reducible exact LeO.refl _)
  | (with_reducible exact LeO.none _)
  | (with_reducible refine LeO.ite ?_ ?_)
  | (with_reducible refine LeO.bind ?_ (fun _ => ?_))
  | exact ih0 _ _
  | exact ih1 _ _ _
  | exact LeO.none _
  | refine LeO.ite ?_ ?_
  | refine LeO.bind ?_ (fun _ => ?_)
set_option maxHeartbeats 8000000 in
set_option maxRecDepth 100000 in
theorem clochelaw09_few.calls (k : Nat) (A0 : Option Addr) (c0 : Nat) (l0 : List (List (List Int))) (r : Bool) (w : World) (hr0 : Kd.C (Kd.slice 28 (Kd.slice 3 (Kd.int .i64))) w A0 l0.length l0) (hc0 : l0.length ≤ c0) (h : clochelaw09_few.f k l0 = some r) :
 Calls Try.prog 21 #[.slice A0 l0.length c0] w fun e w' => e = .returned (.bool r) ∧ Drawn0 w w' := by
 have HR0 := Aside0.mk hr0
 have HC0 := Aside0.mk hc0
 clear hr0 hc0
 have H : (clochelaw09_few.l0 k l0 0) = some r := h
 clear h
 have H' := Aside0.mk H
 clear H
 go_enter Try.func21, Try.ntmps21
 go_wp2
 go_loopg [3] k (fun kq v3 w' => ∃ (x3_1 : Int), v3 = .int .i64 x3_1 ∧ Aside0 (clochelaw09_few.l0 kq l0 x3_1 = some r) ∧ Aside0 (kq ≤ k) ∧ Drawn0 w w')
 case atStart => exact ⟨(0), rf_, H', ⟨Nat.le_refl _⟩, dr_⟩
 case round =>
  clear H'
  obtain ⟨x3_1, rfl, HA, HK1, ⟨m1, rfl⟩⟩ := hrel
  cases gk with
  | zero => exact absurd HA.out (by simp [clochelaw09_few.l0])
  | succ k1 =>
    have H := HA.out
    clear HA
    simp only [clochelaw09_few.l0] at H
    by_cases c2 : x3_1 < (l0.length : Int)
    · rw [if_pos c2] at H
      have c2b0 : decide (x3_1 < (l0.length : Int)) = true := decide_eq_true c2
      clear c2
      by_cases c3 : 0 ≤ x3_1
      · rw [if_pos c3] at H
        have c3b0 : decide (0 ≤ x3_1) = true := decide_eq_true c3
        clear c3
        by_cases c4 : ((rd_L2 l0 x3_1).length : Int) > 20
        · rw [if_pos c4] at H
          have c4b0 : decide (20 < ((rd_L2 l0 x3_1).length : Int)) = true := decide_eq_true c4
          have c4b1 : decide (20 < (rd_L2 l0 x3_1).length) = true := decide_eq_true (by omega)
          clear c4
          obtain rfl := Option.some.inj H
          have p247 : 0 ≤ (x3_1 : Int) := od_
          have q247 : x3_1 < (l0.length : Int) := od_
          obtain ⟨ad247, A247_0, c247_0, e247, hx247_0, hl247_0, hi247_0⟩ := at_L2 HR0.out x3_1 p247 q247
          cases e247
          have HR247_0 := Aside0.mk hi247_0
          have HC247_0 := Aside0.mk hl247_0
          clear hi247_0 hl247_0
          replace p247 := eq_true p247
          replace q247 := eq_true q247
          go_wp2
          go_ret
          exact ⟨rf_, dr_⟩
        · rw [if_neg c4] at H
          have c4b0 : decide (20 < ((rd_L2 l0 x3_1).length : Int)) = false := decide_eq_false c4
          have c4b1 : decide (20 < (rd_L2 l0 x3_1).length) = false := decide_eq_false (by omega)
          clear c4
          have H' := Aside0.mk H
          clear H
          have p247 : 0 ≤ (x3_1 : Int) := od_
          have q247 : x3_1 < (l0.length : Int) := od_
          obtain ⟨ad247, A247_0, c247_0, e247, hx247_0, hl247_0, hi247_0⟩ := at_L2 HR0.out x3_1 p247 q247
          cases e247
          have HR247_0 := Aside0.mk hi247_0
          have HC247_0 := Aside0.mk hl247_0
          clear hi247_0 hl247_0
          replace p247 := eq_true p247
          replace q247 := eq_true q247
          go_wp2
          go_loopg [4] k1 (fun kq v4 w' => ∃ (x4_2 : Int), v4 = .int .i64 x4_2 ∧ Aside0 (clochelaw09_few.l1 kq l0 x3_1 x4_2 = some r) ∧ Aside0 (kq ≤ k1) ∧ Drawn0 w w')
          case atStart => exact ⟨(0), rf_, H', ⟨Nat.le_refl _⟩, dr_⟩
          case round =>
           clear H'
           try clear c2
           try clear c2b0
           try clear p2
           try clear q2
           try clear hx2
           try clear c3
           try clear c3b0
           try clear c4
           try clear c4b0
           try clear c4b1
           try clear hx247_0
           try clear p247
           try clear q247
           obtain ⟨x4_2, rfl, HA, HK2, ⟨m2, rfl⟩⟩ := hrel
           cases gk with
           | zero => exact absurd HA.out (by simp [clochelaw09_few.l1])
           | succ k2 =>
            have H := HA.out
            clear HA
            simp only [clochelaw09_few.l1] at H
            by_cases c5 : 0 ≤ x3_1
            · rw [if_pos c5] at H
              have c5b0 : decide (0 ≤ x3_1) = true := decide_eq_true c5
              clear c5
              by_cases c6 : x3_1 < (l0.length : Int)
              · rw [if_pos c6] at H
                have c6b0 : decide (x3_1 < (l0.length : Int)) = true := decide_eq_true c6
                clear c6
                by_cases c7 : x4_2 < ((rd_L2 l0 x3_1).length : Int)
                · rw [if_pos c7] at H
                  have c7b0 : decide (x4_2 < ((rd_L2 l0 x3_1).length : Int)) = true := decide_eq_true c7
                  clear c7
                  by_cases c8 : 0 ≤ x4_2
                  · rw [if_pos c8] at H
                    have c8b0 : decide (0 ≤ x4_2) = true := decide_eq_true c8
                    clear c8
                    by_cases c9 : ((rd_L1 (rd_L2 l0 x3_1) x4_2).length : Int) > 20
                    · rw [if_pos c9] at H
                      have c9b0 : decide (20 < ((rd_L1 (rd_L2 l0 x3_1) x4_2).length : Int)) = true := decide_eq_true c9
                      have c9b1 : decide (20 < (rd_L1 (rd_L2 l0 x3_1) x4_2).length) = true := decide_eq_true (by omega)
                      clear c9
                      obtain rfl := Option.some.inj H
                      have p248 : 0 ≤ (x3_1 : Int) := od_
                      have q248 : x3_1 < (l0.length : Int) := od_
                      obtain ⟨ad248, A248_0, c248_0, e248, hx248_0, hl248_0, hi248_0⟩ := at_L2 HR0.out x3_1 p248 q248
                      obtain rfl : ad247 = ad248 := (by injection e248)
                      have HR248_0 := Aside0.mk hi248_0
                      have HC248_0 := Aside0.mk hl248_0
                      clear hi248_0 hl248_0
                      replace p248 := eq_true p248
                      replace q248 := eq_true q248
                      have p249 : 0 ≤ (x3_1 : Int) := od_
                      have q249 : x3_1 < (l0.length : Int) := od_
                      obtain ⟨ad249, A249_0, c249_0, e249, hx249_0, hl249_0, hi249_0⟩ := at_L2 HR0.out x3_1 p249 q249
                      obtain rfl : ad247 = ad249 := (by injection e249)
                      have HR249_0 := Aside0.mk hi249_0
                      have HC249_0 := Aside0.mk hl249_0
                      clear hi249_0 hl249_0
                      replace p249 := eq_true p249
                      replace q249 := eq_true q249
                      have ea_ := Option.some.inj (hx248_0.symm.trans hx249_0)
                      injection ea_ with ea_ en_ ec_
                      subst ea_
                      subst ec_
                      clear en_
                      obtain ⟨ad250, A250_0, c250_0, e250, hx250_0, HC250_0, HR250_0, p250, q250⟩ := al_ HR249_0.out x4_2
                      cases e250
                      go_wp2
                      go_ret
                      exact ⟨rf_, dr_⟩
                    · rw [if_neg c9] at H
                      have c9b0 : decide (20 < ((rd_L1 (rd_L2 l0 x3_1) x4_2).length : Int)) = false := decide_eq_false c9
                      have c9b1 : decide (20 < (rd_L1 (rd_L2 l0 x3_1) x4_2).length) = false := decide_eq_false (by omega)
                      clear c9
                      have H' := Aside0.mk H
                      clear H
                      have p248 : 0 ≤ (x3_1 : Int) := od_
                      have q248 : x3_1 < (l0.length : Int) := od_
                      obtain ⟨ad248, A248_0, c248_0, e248, hx248_0, hl248_0, hi248_0⟩ := at_L2 HR0.out x3_1 p248 q248
                      obtain rfl : ad247 = ad248 := (by injection e248)
                      have HR248_0 := Aside0.mk hi248_0
                      have HC248_0 := Aside0.mk hl248_0
                      clear hi248_0 hl248_0
                      replace p248 := eq_true p248
                      replace q248 := eq_true q248
                      have p249 : 0 ≤ (x3_1 : Int) := od_
                      have q249 : x3_1 < (l0.length : Int) := od_
                      obtain ⟨ad249, A249_0, c249_0, e249, hx249_0, hl249_0, hi249_0⟩ := at_L2 HR0.out x3_1 p249 q249
                      obtain rfl : ad247 = ad249 := (by injection e249)
                      have HR249_0 := Aside0.mk hi249_0
                      have HC249_0 := Aside0.mk hl249_0
                      clear hi249_0 hl249_0
                      replace p249 := eq_true p249
                      replace q249 := eq_true q249
                      have ea_ := Option.some.inj (hx248_0.symm.trans hx249_0)
                      injection ea_ with ea_ en_ ec_
                      subst ea_
                      subst ec_
                      clear en_
                      obtain ⟨ad250, A250_0, c250_0, e250, hx250_0, HC250_0, HR250_0, p250, q250⟩ := al_ HR249_0.out x4_2
                      cases e250
                      go_wp2
                      go_roundg k2
                      case measure => have := HK1.out; have := HK2.out; omega
                      case rel => exact ⟨(wrap64 (x4_2 + 1)), rf_, H', ⟨by have := HK1.out; have := HK2.out; omega⟩, dr_⟩
                  · rw [if_neg c8] at H
                    exact absurd H (by simp)
                · rw [if_neg c7] at H
                  have c7b0 : decide (x4_2 < ((rd_L2 l0 x3_1).length : Int)) = false := decide_eq_false c7
                  clear c7
                  have H' := Aside0.mk H
                  clear H
                  have p248 : 0 ≤ (x3_1 : Int) := od_
                  have q248 : x3_1 < (l0.length : Int) := od_
                  obtain ⟨ad248, A248_0, c248_0, e248, hx248_0, hl248_0, hi248_0⟩ := at_L2 HR0.out x3_1 p248 q248
                  obtain rfl : ad247 = ad248 := (by injection e248)
                  have HR248_0 := Aside0.mk hi248_0
                  have HC248_0 := Aside0.mk hl248_0
                  clear hi248_0 hl248_0
                  replace p248 := eq_true p248
                  replace q248 := eq_true q248
                  go_wp2
                  go_roundg k2
                  case measure => have := HK1.out; have := HK2.out; omega
                  case rel => exact ⟨(wrap64 (x3_1 + 1)), rf_, H', ⟨by have := HK1.out; have := HK2.out; omega⟩, dr_⟩
              · rw [if_neg c6] at H
                exact absurd H (by simp)
            · rw [if_neg c5] at H
              exact absurd H (by simp)
      · rw [if_neg c3] at H
        exact absurd H (by simp)
    · rw [if_neg c2] at H
      have c2b0 : decide (x3_1 < (l0.length : Int)) = false := decide_eq_false c2
      clear c2
      obtain rfl := Option.some.inj H
      go_wp2
      go_ret
      exact ⟨rf_, dr_⟩

end Go.Proofs.Ytdinepghommchaa.V

/- All pairings of up to ten ends, grown end by end; more rounds tell the same; few always answers. -/
namespace Go.Proofs.Ytdinepghommchaa.V
open Go.RowKit Go.Proofs.YtdinepghommchaaW.PrintWords Go.Proofs.YtdinepghommchaaW.PrintLast Go.Proofs.YtdinepghommchaaW.PrintMore
theorem lift_ {β : Type} {f : Nat → Option β} (hm : ∀ k, LeO (f k) (f (k + 1))) {r : β} {a : Nat} (h : f a = some r) : ∀ d, f (a + d) = some r
 | 0 => h
 | d + 1 => hm (a + d) r (lift_ hm h d)
theorem lift {β : Type} {f : Nat → Option β} (hm : ∀ k, LeO (f k) (f (k + 1))) {r : β} {a b : Nat} (h : f a = some r) (hab : a ≤ b) : f b = some r := by
 have := lift_ hm h (b - a)
 rwa [show a + (b - a) = b by omega] at this
/-- The last end of the beginning of a pairing fits those before it. -/
def okP (p : List Int) : Bool :=
 match p.length with
 | 0 => true
 | i + 1 => decide (p.getD i 0 ≠ (i : Int)) && (decide ((i : Int) ≤ p.getD i 0) || decide (p.getD (p.getD i 0).toNat 0 = (i : Int))) && (List.range i).all fun j => decide (p.getD j 0 ≠ p.getD i 0) && (decide (p.getD j 0 ≠ (i : Int)) || decide (p.getD i 0 = (j : Int)))
def prOf (n : Nat) : List (List Int) := grow ((List.range (2 * n)).map fun i : Nat => (i : Int)) okP (2 * n)
theorem Pr.mem {l : List Int} (h : Pr l) : l ∈ prOf (l.length / 2) := by
 obtain ⟨h2, h10, he, hg⟩ := h
 have e2 : 2 * (l.length / 2) = l.length := by omega
 unfold prOf
 rw [e2]
 have h1 : ∀ x ∈ l, x ∈ (List.range l.length).map fun i : Nat => (i : Int) := by
  intro x hx
  obtain ⟨i, hi, rfl⟩ := List.getElem_of_mem hx
  obtain ⟨a, b, _, _⟩ := hg i hi
  rw [List.getD_eq_getElem?_getD, List.getElem?_eq_getElem hi] at a b
  simp only [Option.getD_some] at a b
  rw [List.mem_map]
  exact ⟨l[i].toNat, List.mem_range.mpr (by omega), by omega⟩
 have tk : ∀ m i, i < m → (l.take m).getD i 0 = l.getD i 0 := fun m i hi => by
  rw [List.getD_eq_getElem?_getD, List.getElem?_take_of_lt hi, List.getD_eq_getElem?_getD]
 have := mem_grow (cands := (List.range l.length).map fun i : Nat => (i : Int)) (ok := okP) h1 (fun m hm => by
  unfold okP
  have hlen : (l.take m).length = m := by rw [List.length_take]; omega
  rw [hlen]
  cases m with
  | zero => rfl
  | succ i =>
   obtain ⟨a, b, c, d⟩ := hg i (by omega)
   dsimp only
   rw [tk (i + 1) i (by omega)]
   simp only [Bool.and_eq_true, Bool.or_eq_true, List.all_eq_true, decide_eq_true_eq]
   refine ⟨⟨c, ?_⟩, fun j hj => ?_⟩
   · by_cases cc : (i : Int) ≤ l.getD i 0
     · left; exact cc
     · right; rw [tk (i + 1) _ (by omega)]; exact d
   · have hj' : j < i := List.mem_range.mp hj
     obtain ⟨_, _, _, d'⟩ := hg j (by omega)
     rw [tk (i + 1) j (by omega)]
     refine ⟨fun hh => ?_, ?_⟩
     · rw [hh, d] at d'
       omega
     · by_cases e : l.getD j 0 = (i : Int)
       · right
         rw [e, Int.toNat_natCast] at d'
         exact d'
       · left; exact e) l.length (Nat.le_refl _)
 rwa [List.take_length] at this
def pairingsAll : List (List Int) := prOf 1 ++ prOf 2 ++ prOf 3 ++ prOf 4 ++ prOf 5
theorem few_l1 (L : List (List (List Int))) (i : Nat) (hi : i < L.length) (hL : L.length ≤ 20) (h20 : (rd_L2 L i).length ≤ 20) : ∀ d k x, x + d = (rd_L2 L i).length →
 clochelaw09_few.l1 (k + d + 1) L i x = some false ∨ clochelaw09_few.l1 (k + d + 1) L i x = clochelaw09_few.l0 k L (i + 1 : Nat)
 | 0, k, x, h => by
  right
  rw [Nat.add_zero, clochelaw09_few.l1, if_pos (by omega), if_pos (by omega), if_neg (by omega), wr_succ i (by omega)]
 | d + 1, k, x, h => by
  rw [show k + (d + 1) + 1 = (k + d + 1) + 1 from rfl, clochelaw09_few.l1, if_pos (by omega), if_pos (by omega), if_pos (by omega), if_pos (by omega)]
  by_cases c : ((rd_L1 (rd_L2 L i) x).length : Int) > 20
  · left; rw [if_pos c]
  · rw [if_neg c, wr_succ x (by omega)]
    exact few_l1 L i hi hL h20 d k (x + 1) (by omega)
theorem few_l0 (L : List (List (List Int))) (hL : L.length ≤ 20) : ∀ d k i, i + d = L.length →
 ∃ b, clochelaw09_few.l0 (k + d * 22 + 1) L i = some b
 | 0, k, i, h => by
  refine ⟨true, ?_⟩
  rw [show k + 0 * 22 + 1 = k + 1 by omega, clochelaw09_few.l0, if_neg (by omega)]
 | d + 1, k, i, h => by
  rw [show k + (d + 1) * 22 + 1 = (k + d * 22 + 22) + 1 by omega, clochelaw09_few.l0, if_pos (by omega), if_pos (by omega)]
  by_cases c : ((rd_L2 L i).length : Int) > 20
  · rw [if_pos c]; exact ⟨_, rfl⟩
  · rw [if_neg c]
    have h1 := few_l1 L i (by omega) hL (by omega) (rd_L2 L i).length (k + d * 22 + 21 - (rd_L2 L i).length) 0 (by omega)
    rw [show k + d * 22 + 21 - (rd_L2 L i).length + (rd_L2 L i).length + 1 = k + d * 22 + 22 by omega, show ((0 : Nat) : Int) = 0 from rfl] at h1
    rcases h1 with h1 | h1
    · exact ⟨_, h1⟩
    · rw [h1]
      have := few_l0 L hL d (k + 20 - (rd_L2 L i).length) (i + 1) (by omega)
      rwa [show k + 20 - (rd_L2 L i).length + d * 22 + 1 = k + d * 22 + 21 - (rd_L2 L i).length by omega] at this
theorem few_spec (L : List (List (List Int))) (hL : L.length ≤ 20) : ∃ b, clochelaw09_few.f 500 L = some b := by
 have := few_l0 L hL L.length (499 - L.length * 22) 0 (by omega)
 rw [show 499 - L.length * 22 + L.length * 22 + 1 = 500 by omega, show ((0 : Nat) : Int) = 0 from rfl] at this
 exact this
end Go.Proofs.Ytdinepghommchaa.V

/- An argument that is a table of numbers, or a row of numbers, opened as the words' rows that can be read. -/
namespace Go.Proofs.Ytdinepghommchaa.V
open Go.RowKit Go.Proofs.YtdinepghommchaaW.PrintWords Go.Proofs.YtdinepghommchaaW.PrintLast Go.Proofs.YtdinepghommchaaW.PrintMore
open Go.ChangeShapes Go.WideShapes Go.Deep Go.ChangeShapes
theorem row_reads {W : World} {A : Option Addr} {L C : Nat} {Z : List Int} (h1 : L ≤ C) (h2 : C ≤ maxLen) (h3 : Z.length = C) (h4 : A = none → C = 0)
 (h5 : ∀ a', A = some a' → ∀ c, c < C → W.cell? (a'.add c) = some (.int .i64 (Z.getD c 0))) :
 (Z.take L).length = L ∧ Kd.C (Kd.int .i64) W A L (Z.take L) := by
 have hl : (Z.take L).length = L := by rw [List.length_take]; omega
 have hm : (maxLen : Nat) = 9223372036854775807 := by decide
 refine ⟨hl, hl, by omega, fun hn => ?_⟩
 cases A with
 | none => have := h4 rfl; omega
 | some a' =>
  refine ⟨a', rfl, fun j p hj => ⟨[.int .i64 p], rfl, rfl, fun i u hu => ?_⟩⟩
  cases i with
  | succ i => simp at hu
  | zero =>
   simp at hu
   subst hu
   have hj' : j < L := by have := (List.getElem?_eq_some_iff.mp hj).1; omega
   have e : Z.getD j 0 = p := by
    rw [List.getElem?_take_of_lt hj'] at hj
    rw [List.getD_eq_getElem?_getD, hj]; rfl
   have := h5 a' rfl j (by omega)
   rw [e] at this
   show W.cell? (a'.add (j * 1 + 0)) = _
   rw [Nat.mul_one, Nat.add_zero]; exact this
theorem open_row {H : Type} {enc : TypeId × Value → H} {w : World} {base : Nat} {held : Bool} {fuel : Nat} {a : Option Addr} {len cap : Nat} {cs : List Value} {x : DataW H × List MemPlace}
 (hcs : cs = [.slice a len cap]) (h : DataW.trod enc Try.prog w base (fun _ => true) held fuel 28 cs = some x) :
 ∃ l : List Int, len = l.length ∧ Kd.C (Kd.int .i64) w a l.length l ∧ l.length ≤ cap := by
 subst hcs
 rcases open_ints Try.underlying28 Try.underlying3 (by kernel_rfl) h with ⟨hcs, _⟩ | ⟨x', l, c, zs, hcs, _, hl, hm, hz, _, hcell, hwz⟩
 · simp at hcs
   obtain ⟨rfl, rfl, rfl⟩ := hcs
   exact ⟨[], rfl, Kd.C_nil _ _, Nat.le_refl _⟩
 · simp at hcs
   obtain ⟨rfl, rfl, rfl⟩ := hcs
   have hz' : zs.length = cap := by simpa using hz
   obtain ⟨e, hC⟩ := row_reads (W := w) (A := some x') (L := len) (C := cap) (Z := zs) hl hm hz' (fun h => by cases h) (fun a' ha c hc => by cases ha; exact hcell c (by omega))
   exact ⟨zs.take len, e.symm, by rw [e]; exact hC, by omega⟩
theorem open_tab {H : Type} {enc : TypeId × Value → H} {w : World} {base : Nat} {held : Bool} {fuel : Nat} {a : Option Addr} {len cap : Nat} {cs : List Value} {x : DataW H × List MemPlace}
 (hcs : cs = [.slice a len cap]) (h : DataW.trod enc Try.prog w base (fun _ => true) held fuel 27 cs = some x) :
 ∃ l : List (List Int), len = l.length ∧ Kd.C (Kd.slice 3 (Kd.int .i64)) w a l.length l ∧ l.length ≤ cap := by
 subst hcs
 rcases open_int_rows Try.underlying27 Try.underlying28 Try.underlying3 (by kernel_rfl) (by kernel_rfl) h with ⟨hcs, _⟩ | ⟨x', l, c, A, L, C, Z, hcs, _, hl, hm, _, hrows⟩
 · simp at hcs
   obtain ⟨rfl, rfl, rfl⟩ := hcs
   exact ⟨[], rfl, Kd.C_nil _ _, Nat.le_refl _⟩
 · simp at hcs
   obtain ⟨rfl, rfl, rfl⟩ := hcs
   have hmx : (maxLen : Nat) = 9223372036854775807 := by decide
   have e : ((List.range len).map fun r => (Z r).take (L r)).length = len := by simp
   refine ⟨(List.range len).map fun r => (Z r).take (L r), e.symm, ?_, by omega⟩
   refine ⟨rfl, by omega, fun hn => ⟨x', rfl, fun j p hj => ?_⟩⟩
   have hj' : j < len := by have := (List.getElem?_eq_some_iff.mp hj).1; omega
   rw [List.getElem?_map, List.getElem?_range hj'] at hj
   simp at hj
   subst hj
   obtain ⟨hcell, h1, h2, h3, _, h4, h5⟩ := hrows j (by omega)
   obtain ⟨e', hC⟩ := row_reads (W := w) (A := A j) h1 h2 h3 h4 (fun a' ha c hc => (h5 a' ha).2 c hc)
   refine ⟨[.slice (A j) (L j) (C j)], rfl, ⟨A j, C j, by rw [e'], by omega, by rw [e']; exact hC⟩, fun i u hu => ?_⟩
   cases i with
   | succ i => simp at hu
   | zero =>
    simp at hu
    subst hu
    show w.cell? (x'.add (j * 1 + 0)) = _
    rw [Nat.mul_one, Nat.add_zero]; exact hcell
end Go.Proofs.Ytdinepghommchaa.V
