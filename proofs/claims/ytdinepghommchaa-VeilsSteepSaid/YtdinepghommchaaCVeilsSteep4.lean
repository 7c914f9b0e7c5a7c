/- The walks, their words and the pure laws under the claim of VeilsSteep, part: Vf29. -/
import Derived.Test.YtdinepghommchaaCVeilsSteep1
-- Written by a program of this session over the kit's printer: wip/gp.py.
namespace Go.Proofs.Ytdinepghommchaa.V
open Go.RowKit Go.Proofs.YtdinepghommchaaW.PrintWords Go.Proofs.YtdinepghommchaaW.PrintLast Go.Proofs.YtdinepghommchaaW.PrintMore
attribute [local go_sem] max2_int min2_int max_two min_two max_three min_three max_four min_four   -- for this text's walks alone
set_option linter.unusedVariables false
set_option linter.unusedSimpArgs false

/-! ### clochelaw09_steep: function 29 -/
mutual
def clochelaw09_steep.j0 : Nat → List (List Int) → Int → Bool → Option (Bool)
 | 0, _, _, _ => none
 | k + 1, x0, x3, x16 => if x16 = true then (some false) else (clochelaw09_steep.l0 k x0 x3 0)
def clochelaw09_steep.l0 : Nat → List (List Int) → Int → Int → Option (Bool)
 | 0, _, _, _ => none
 | k + 1, x0, x3, x4 => if x4 ≤ x3 then (if 0 ≤ x4 then (if x4 < (x0.length : Int) then (if ((rd_L1 x0 x4).length : Int) = (wrap64 (x3 + 1)) then (clochelaw09_steep.l1 k x0 x3 x4 0) else (some false)) else (none)) else (none)) else (clochelaw09_steep.l2 k x0 x3 0)
def clochelaw09_steep.l1 : Nat → List (List Int) → Int → Int → Int → Option (Bool)
 | 0, _, _, _, _ => none
 | k + 1, x0, x3, x4, x5 => if x5 ≤ x3 then (if 0 ≤ x4 then (if x4 < (x0.length : Int) then (if 0 ≤ x5 then (if x5 < ((rd_L1 x0 x4).length : Int) then (if (rd (rd_L1 x0 x4) x5) < 0 then (some false) else (if (rd (rd_L1 x0 x4) x5) > x3 then (some false) else (clochelaw09_steep.l1 k x0 x3 x4 (wrap64 (x5 + 1))))) else (none)) else (none)) else (none)) else (none)) else (clochelaw09_steep.l0 k x0 x3 (wrap64 (x4 + 1)))
def clochelaw09_steep.l2 : Nat → List (List Int) → Int → Int → Option (Bool)
 | 0, _, _, _ => none
 | k + 1, x0, x3, x6 => if x6 ≤ x3 then (if 0 < (x0.length : Int) then (if 0 ≤ x6 then (if x6 < ((rd_L1 x0 0).length : Int) then (if (rd (rd_L1 x0 0) x6) = x6 then (if x6 < (x0.length : Int) then (if 0 < ((rd_L1 x0 x6).length : Int) then (if (rd (rd_L1 x0 x6) 0) = x6 then (if 0 ≤ x3 then (if x3 < (x0.length : Int) then (if x6 < ((rd_L1 x0 x3).length : Int) then (if (rd (rd_L1 x0 x3) x6) = (wrap64 (x3 - x6)) then (if x3 < ((rd_L1 x0 x6).length : Int) then (clochelaw09_steep.j4 k x0 x3 x6 ((rd (rd_L1 x0 x6) x3) != (wrap64 (x3 - x6)))) else (none)) else (clochelaw09_steep.j4 k x0 x3 x6 true)) else (none)) else (none)) else (none)) else (clochelaw09_steep.j4 k x0 x3 x6 true)) else (none)) else (none)) else (clochelaw09_steep.j4 k x0 x3 x6 true)) else (none)) else (none)) else (none)) else (some true)
def clochelaw09_steep.j4 : Nat → List (List Int) → Int → Int → Bool → Option (Bool)
 | 0, _, _, _, _ => none
 | k + 1, x0, x3, x6, x102 => if x102 = true then (some false) else (clochelaw09_steep.l3 k x0 x3 x6 0)
def clochelaw09_steep.l3 : Nat → List (List Int) → Int → Int → Int → Option (Bool)
 | 0, _, _, _, _ => none
 | k + 1, x0, x3, x6, x7 => if x7 < x3 then (if 0 ≤ x6 then (if x6 < (x0.length : Int) then (if 0 ≤ (wrap64 (x7 + 1)) then (if (wrap64 (x7 + 1)) < ((rd_L1 x0 x6).length : Int) then (if 0 ≤ x7 then (if x7 < ((rd_L1 x0 x6).length : Int) then (if (wrap64 ((rd (rd_L1 x0 x6) (wrap64 (x7 + 1))) - (rd (rd_L1 x0 x6) x7))) = 1 then (if (wrap64 (x7 + 1)) < (x0.length : Int) then (if x6 < ((rd_L1 x0 (wrap64 (x7 + 1))).length : Int) then (if x7 < (x0.length : Int) then (if x6 < ((rd_L1 x0 x7).length : Int) then (if (wrap64 ((rd (rd_L1 x0 (wrap64 (x7 + 1))) x6) - (rd (rd_L1 x0 x7) x6))) = 1 then (clochelaw09_steep.l3 k x0 x3 x6 (wrap64 (x7 + 1))) else (if (wrap64 ((rd (rd_L1 x0 (wrap64 (x7 + 1))) x6) - (rd (rd_L1 x0 x7) x6))) = (-1) then (clochelaw09_steep.l3 k x0 x3 x6 (wrap64 (x7 + 1))) else (some false))) else (none)) else (none)) else (none)) else (none)) else (if (wrap64 ((rd (rd_L1 x0 x6) (wrap64 (x7 + 1))) - (rd (rd_L1 x0 x6) x7))) = (-1) then (if (wrap64 (x7 + 1)) < (x0.length : Int) then (if x6 < ((rd_L1 x0 (wrap64 (x7 + 1))).length : Int) then (if x7 < (x0.length : Int) then (if x6 < ((rd_L1 x0 x7).length : Int) then (if (wrap64 ((rd (rd_L1 x0 (wrap64 (x7 + 1))) x6) - (rd (rd_L1 x0 x7) x6))) = 1 then (clochelaw09_steep.l3 k x0 x3 x6 (wrap64 (x7 + 1))) else (if (wrap64 ((rd (rd_L1 x0 (wrap64 (x7 + 1))) x6) - (rd (rd_L1 x0 x7) x6))) = (-1) then (clochelaw09_steep.l3 k x0 x3 x6 (wrap64 (x7 + 1))) else (some false))) else (none)) else (none)) else (none)) else (none)) else (some false))) else (none)) else (none)) else (none)) else (none)) else (none)) else (none)) else (clochelaw09_steep.l2 k x0 x3 (wrap64 (x6 + 1)))
end
def clochelaw09_steep.f (k : Nat) (l0 : List (List Int)) : Option (Bool) := if (wrap64 ((l0.length : Int) - 1)) < 1 then (clochelaw09_steep.j0 k l0 (wrap64 ((l0.length : Int) - 1)) true) else (clochelaw09_steep.j0 k l0 (wrap64 ((l0.length : Int) - 1)) (decide ((wrap64 ((l0.length : Int) - 1)) > 5)))
theorem clochelaw09_steep.mono_l : ∀ k, (∀ y0 y1 y2, LeO (clochelaw09_steep.j0 k y0 y1 y2) (clochelaw09_steep.j0 (k + 1) y0 y1 y2)) ∧ (∀ y0 y1 y2, LeO (clochelaw09_steep.l0 k y0 y1 y2) (clochelaw09_steep.l0 (k + 1) y0 y1 y2)) ∧ (∀ y0 y1 y2 y3, LeO (clochelaw09_steep.l1 k y0 y1 y2 y3) (clochelaw09_steep.l1 (k + 1) y0 y1 y2 y3)) ∧ (∀ y0 y1 y2, LeO (clochelaw09_steep.l2 k y0 y1 y2) (clochelaw09_steep.l2 (k + 1) y0 y1 y2)) ∧ (∀ y0 y1 y2 y3, LeO (clochelaw09_steep.j4 k y0 y1 y2 y3) (clochelaw09_steep.j4 (k + 1) y0 y1 y2 y3)) ∧ (∀ y0 y1 y2 y3, LeO (clochelaw09_steep.l3 k y0 y1 y2 y3) (clochelaw09_steep.l3 (k + 1) y0 y1 y2 y3))
 | 0 => ⟨fun _ _ _ r h => by simp [clochelaw09_steep.j0] at h, fun _ _ _ r h => by simp [clochelaw09_steep.l0] at h, fun _ _ _ _ r h => by simp [clochelaw09_steep.l1] at h, fun _ _ _ r h => by simp [clochelaw09_steep.l2] at h, fun _ _ _ _ r h => by simp [clochelaw09_steep.j4] at h, fun _ _ _ _ r h => by simp [clochelaw09_steep.l3] at h⟩
 | k + 1 => by
  obtain ⟨ih0, ih1, ih2, ih3, ih4, ih5⟩ := clochelaw09_steep.mono_l k
  refine ⟨?_, ?_, ?_, ?_, ?_, ?_⟩
  · intro y0 y1 y2
    unfold clochelaw09_steep.j0
    repeat' first
    | (with_reducible exact ih0 _ _ _)
    | (with_reducible exact ih1 _ _ _)
    | (with_reducible exact ih2 _ _ _ _)
    | (with_reducible exact ih3 _ _ _)
    | (with_reducible exact ih4 _ _ _ _)
    | (with_reducible exact ih5 _ _ _ _)
    | (with_reducible exact LeO.refl _)
    | (with_reducible exact LeO.none _)
    | (with_reducible refine LeO.ite ?_ ?_)
    | (with_reducible refine LeO.bind ?_ (fun _ => ?_))
    | exact ih0 _ _ _
    | exact ih1 _ _ _
    | exact ih2 _ _ _ _
    | exact ih3 _ _ _
    | exact ih4 _ _ _ _
    | exact ih5 _ _ _ _
    | exact LeO.none _
    | refine LeO.ite ?_ ?_
    | refine LeO.bind ?_ (fun _ => ?_)
  · intro y0 y1 y2
    unfold clochelaw09_steep.l0
    repeat' first
    | (with_reducible exact ih0 _ _ _)
    | (with_reducible exact ih1 _ _ _)
    | (with_reducible exact ih2 _ _ _ _)
    | (with_reducible exact ih3 _ _ _)
    | (with_reducible exact ih4 _ _ _ _)
    | (with_reducible exact ih5 _ _ _ _)
    | (with_reducible exact LeO.refl _)
    | (with_reducible exact LeO.none _)
    | (with_reducible refine LeO.ite ?_ ?_)
    | (with_reducible refine LeO.bind ?_ (fun _ => ?_))
    | exact ih0 _ _ _
    | exact ih1 _ _ _
    | exact ih2 _ _ _ _
    | exact ih3 _ _ _
    | exact ih4 _ _ _ _
    | exact ih5 _ _ _ _
    | exact LeO.none _
    | refine LeO.ite ?_ ?_
    | refine LeO.bind ?_ (fun _ => ?_)
  · intro y0 y1 y2 y3
    unfold clochelaw09_steep.l1
    repeat' first
    | (with_reducible exact ih0 _ _ _)
    | (with_reducible exact ih1 _ _ _)
    | (with_reducible exact ih2 _ _ _ _)
    | (with_reducible exact ih3 _ _ _)
    | (with_reducible exact ih4 _ _ _ _)
    | (with_reducible exact ih5 _ _ _ _)
    | (with_reducible exact LeO.refl _)
    | (with_reducible exact LeO.none _)
    | (with_reducible refine LeO.ite ?_ ?_)
    | (with_reducible refine LeO.bind ?_ (fun _ => ?_))
    | exact ih0 _ _ _
    | exact ih1 _ _ _
    | exact ih2 _ _ _ _
    | exact ih3 _ _ _
    | exact ih4 _ _ _ _
    | exact ih5 _ _ _ _
    | exact LeO.none _
    | refine LeO.ite ?_ ?_
    | refine LeO.bind ?_ (fun _ => ?_)
  · intro y0 y1 y2
    unfold clochelaw09_steep.l2
    repeat' first
    | (with_reducible exact ih0 _ _ _)
    | (with_reducible exact ih1 _ _ _)
    | (with_reducible exact ih2 _ _ _ _)
    | (with_reducible exact ih3 _ _ _)
    | (with_reducible exact ih4 _ _ _ _)
    | (with_reducible exact ih5 _ _ _ _)
    | (with_reducible exact LeO.refl _)
    | (with_reducible exact LeO.none _)
    | (with_reducible refine LeO.ite ?_ ?_)
    | (with_reducible refine LeO.bind ?_ (fun _ => ?_))
    | exact ih0 _ _ _
    | exact ih1 _ _ _
    | exact ih2 _ _ _ _
    | exact ih3 _ _ _
    | exact ih4 _ _ _ _
    | exact ih5 _ _ _ _
    | exact LeO.none _
    | refine LeO.ite ?_ ?_
    | refine LeO.bind ?_ (fun _ => ?_)
  · intro y0 y1 y2 y3
    unfold clochelaw09_steep.j4
    repeat' first
    | (with_reducible exact ih0 _ _ _)
    | (with_reducible exact ih1 _ _ _)
    | (with_reducible exact ih2 _ _ _ _)
    | (with_reducible exact ih3 _ _ _)
    | (with_reducible exact ih4 _ _ _ _)
    | (with_reducible exact ih5 _ _ _ _)
    | (with_reducible exact LeO.refl _)
    | (with_reducible exact LeO.none _)
    | (with_reducible refine LeO.ite ?_ ?_)
    | (with_reducible refine LeO.bind ?_ (fun _ => ?_))
    | exact ih0 _ _ _
    | exact ih1 _ _ _
    | exact ih2 _ _ _ _
    | exact ih3 _ _ _
    | exact ih4 _ _ _ _
    | exact ih5 _ _ _ _
    | exact LeO.none _
    | refine LeO.ite ?_ ?_
    | refine LeO.bind ?_ (fun _ => ?_)
  · intro y0 y1 y2 y3
    unfold clochelaw09_steep.l3
    repeat' first
    | (with_reducible exact ih0 _ _ _)
    | (with_reducible exact ih1 _ _ _)
    | (with_reducible exact ih2 _ _ _ _)
    | (with_reducible exact ih3 _ _ _)
    | (with_reducible exact ih4 _ _ _ _)
    | (with_reducible exact ih5 _ _ _ _)
    | (with_reducible exact LeO.refl _)
    | (with_reducible exact LeO.none _)
    | (with_reducible refine LeO.ite ?_ ?_)
    | (with_reducible refine LeO.bind ?_ (fun _ => ?_))
    | exact ih0 _ _ _
    | exact ih1 _ _ _
    | exact ih2 _ _ _ _
    | exact ih3 _ _ _
    | exact ih4 _ _ _ _
    | exact ih5 _ _ _ _
    | exact LeO.none _
    | refine LeO.ite ?_ ?_
    | refine LeO.bind ?_ (fun _ => ?_)
theorem clochelaw09_steep.mono : ∀ a0 k, LeO (clochelaw09_steep.f k a0) (clochelaw09_steep.f (k + 1) a0) := by
 intro a0 k
 obtain ⟨ih0, ih1, ih2, ih3, ih4, ih5⟩ := clochelaw09_steep.mono_l k
 unfold clochelaw09_steep.f
 repeat' first
  | (with_reducible exact ih0 _ _ _)
  | (with_reducible exact ih1 _ _ _)
  | (with_reducible exact ih2 _ _ _ _)
  | (with_reducible exact ih3 _ _ _)
  | (with_reducible exact ih4 _ _ _ _)
  | (with_reducible exact ih5 _ _ _ _)
  | (with_reducible exact LeO.refl _)
  | (with_reducible exact LeO.none _)
  | (with_reducible refine LeO.ite ?_ ?_)
  | (with_reducible refine LeO.bind ?_ (fun _ => ?_))
  | exact ih0 _ _ _
  | exact ih1 _ _ _
  | exact ih2 _ _ _ _
  | exact ih3 _ _ _
  | exact ih4 _ _ _ _
  | exact ih5 _ _ _ _
  | exact LeO.none _
  | refine LeO.ite ?_ ?_
  | refine LeO.bind ?_ (fun _ => ?_)
set_option maxHeartbeats 8000000 in
set_option maxRecDepth 100000 in
theorem clochelaw09_steep.calls (k : Nat) (A0 : Option Addr) (c0 : Nat) (l0 : List (List Int)) (r : Bool) (w : World) (hr0 : Kd.C (Kd.slice 3 (Kd.int .i64)) w A0 l0.length l0) (hc0 : l0.length ≤ c0) (h : clochelaw09_steep.f k l0 = some r) :
 Calls Try.prog 29 #[.slice A0 l0.length c0] w fun e w' => e = .returned (.bool r) ∧ Drawn0 w w' := by
 have HR0 := Aside0.mk hr0
 have HC0 := Aside0.mk hc0
 clear hr0 hc0
 have H : (if (wrap64 ((l0.length : Int) - 1)) < 1 then (clochelaw09_steep.j0 k l0 (wrap64 ((l0.length : Int) - 1)) true) else (clochelaw09_steep.j0 k l0 (wrap64 ((l0.length : Int) - 1)) (decide ((wrap64 ((l0.length : Int) - 1)) > 5)))) = some r := h
 clear h
 have HC2 := Aside0.mk H
 clear H
 go_enter Try.func29, Try.ntmps29
 go_upto_region 2 with (fail)
 repeat (go_quiet (fail); go_upto_region 2 with (fail))
 go_cut [16] (fun v16 wc => ∃ (kq : Nat) (x16_1 : Bool), v16 = .bool x16_1 ∧ Aside0 (clochelaw09_steep.j0 kq l0 (wrap64 ((l0.length : Int) - 1)) x16_1 = some r) ∧ Aside0 (kq ≤ k) ∧ Drawn0 w wc)
 case first =>
  have H := HC2.out
  clear HC2
  by_cases c3 : (wrap64 ((l0.length : Int) - 1)) < 1
  · rw [if_pos c3] at H
    have c3b0 : decide ((wrap64 ((l0.length : Int) - 1)) < 1) = true := decide_eq_true c3
    clear c3
    (first | rw [c3b0] | (simp only [i64_w, i32_w]; rw [c3b0]) | skip)
    have H' := Aside0.mk H
    clear H
    go_wp2
    repeat (go_quiet (fail); try go_wp2)
    go_meet
    case rel => exact ⟨_, (true), rf_, H', ⟨by first | omega | exact Nat.le_refl _⟩, dr_⟩
  · rw [if_neg c3] at H
    have c3b0 : decide ((wrap64 ((l0.length : Int) - 1)) < 1) = false := decide_eq_false c3
    clear c3
    (first | rw [c3b0] | (simp only [i64_w, i32_w]; rw [c3b0]) | skip)
    have H' := Aside0.mk H
    clear H
    go_wp2
    repeat (go_quiet (fail); try go_wp2)
    go_meet
    case rel => exact ⟨_, (decide ((wrap64 ((l0.length : Int) - 1)) > 5)), rf_, H', ⟨by first | omega | exact Nat.le_refl _⟩, dr_⟩
 case rest =>
  clear HC2
  try clear c2
  try clear p2
  try clear c3
  try clear c3b0
  obtain ⟨kq, x16_1, rfl, HA, HJ1, ⟨mc1, rfl⟩⟩ := hcut
  cases kq with
  | zero => exact absurd HA.out (by simp [clochelaw09_steep.j0])
  | succ kj1 =>
    have H := HA.out
    clear HA
    simp only [clochelaw09_steep.j0] at H
    by_cases c4 : x16_1 = true
    · subst c4
      have H1 : (some false) = some r := by rw [if_pos rfl] at H; exact H
      clear H
      have H := H1
      clear H1
      obtain rfl := Option.some.inj H
      go_wp2
      repeat (go_quiet (fail); try go_wp2)
      go_ret
      exact ⟨rf_, dr_⟩
    · replace c4 := Bool.eq_false_iff.mpr c4
      subst c4
      have H1 : (clochelaw09_steep.l0 kj1 l0 (wrap64 ((l0.length : Int) - 1)) 0) = some r := by rw [if_neg (show ¬ (false = true) by decide)] at H; exact H
      clear H
      have H := H1
      clear H1
      have H' := Aside0.mk H
      clear H
      go_wp2
      repeat (go_quiet (fail); try go_wp2)
      go_loopg [4] kj1 (fun kq v4 w' => ∃ (x4_2 : Int), v4 = .int .i64 x4_2 ∧ Aside0 (clochelaw09_steep.l0 kq l0 (wrap64 ((l0.length : Int) - 1)) x4_2 = some r) ∧ Aside0 (kq ≤ kj1) ∧ Drawn0 w w')
      case atStart => exact ⟨(0), rf_, H', ⟨Nat.le_refl _⟩, dr_⟩
      case round => as_aux_lemma =>
       clear H'
       try clear c1
       try clear c2
       try clear p2
       try clear c3
       try clear c3b0
       try clear c4
       try clear p2
       obtain ⟨x4_2, rfl, HA, HK2, ⟨m2, rfl⟩⟩ := hrel
       cases gk with
       | zero => exact absurd HA.out (by simp [clochelaw09_steep.l0])
       | succ k2 =>
        have H := HA.out
        clear HA
        simp only [clochelaw09_steep.l0] at H
        by_cases c5 : x4_2 ≤ (wrap64 ((l0.length : Int) - 1))
        · rw [if_pos c5] at H
          have c5b0 : decide (x4_2 ≤ (wrap64 ((l0.length : Int) - 1))) = true := decide_eq_true c5
          clear c5
          by_cases c6 : 0 ≤ x4_2
          · rw [if_pos c6] at H
            have c6b0 : decide (0 ≤ x4_2) = true := decide_eq_true c6
            clear c6
            by_cases c7 : x4_2 < (l0.length : Int)
            · rw [if_pos c7] at H
              have c7b0 : decide (x4_2 < (l0.length : Int)) = true := decide_eq_true c7
              clear c7
              by_cases c8 : ((rd_L1 l0 x4_2).length : Int) = (wrap64 ((wrap64 ((l0.length : Int) - 1)) + 1))
              · rw [if_pos c8] at H
                have c8b0 : (((rd_L1 l0 x4_2).length : Int) == (wrap64 ((wrap64 ((l0.length : Int) - 1)) + 1))) = true := beq_iff_eq.mpr c8
                have c8b1 : (((rd_L1 l0 x4_2).length : Int) != (wrap64 ((wrap64 ((l0.length : Int) - 1)) + 1))) = false := bne_eq_false_iff_eq.mpr c8
                clear c8
                have H' := Aside0.mk H
                clear H
                obtain ⟨ad436, A436_0, c436_0, e436, hx436_0, HC436_0, HR436_0, p436, q436⟩ := al_ HR0.out x4_2
                cases e436
                go_wp2
                repeat (go_quiet (fail); try go_wp2)
                go_loopg [5] k2 (fun kq v5 w' => ∃ (x5_3 : Int), v5 = .int .i64 x5_3 ∧ Aside0 (clochelaw09_steep.l1 kq l0 (wrap64 ((l0.length : Int) - 1)) x4_2 x5_3 = some r) ∧ Aside0 (kq ≤ k2) ∧ Drawn0 w w')
                case atStart => exact ⟨(0), rf_, H', ⟨Nat.le_refl _⟩, dr_⟩
                case round => as_aux_lemma =>
                 clear H'
                 try clear c1
                 try clear c2
                 try clear p2
                 try clear c3
                 try clear c3b0
                 try clear c4
                 try clear p4
                 try clear q4
                 try clear hx4
                 try clear c5
                 try clear c5b0
                 try clear c6
                 try clear c6b0
                 try clear p6
                 try clear c7
                 try clear c7b0
                 try clear c8
                 try clear c8b0
                 try clear c8b1
                 try clear hx436_0
                 try clear p2
                 try clear p436
                 try clear q436
                 obtain ⟨x5_3, rfl, HA, HK3, ⟨m3, rfl⟩⟩ := hrel
                 cases gk with
                 | zero => exact absurd HA.out (by simp [clochelaw09_steep.l1])
                 | succ k3 =>
                  have H := HA.out
                  clear HA
                  simp only [clochelaw09_steep.l1] at H
                  by_cases c9 : x5_3 ≤ (wrap64 ((l0.length : Int) - 1))
                  · rw [if_pos c9] at H
                    have c9b0 : decide (x5_3 ≤ (wrap64 ((l0.length : Int) - 1))) = true := decide_eq_true c9
                    clear c9
                    by_cases c10 : 0 ≤ x4_2
                    · rw [if_pos c10] at H
                      have c10b0 : decide (0 ≤ x4_2) = true := decide_eq_true c10
                      clear c10
                      by_cases c11 : x4_2 < (l0.length : Int)
                      · rw [if_pos c11] at H
                        have c11b0 : decide (x4_2 < (l0.length : Int)) = true := decide_eq_true c11
                        clear c11
                        by_cases c12 : 0 ≤ x5_3
                        · rw [if_pos c12] at H
                          have c12b0 : decide (0 ≤ x5_3) = true := decide_eq_true c12
                          clear c12
                          by_cases c13 : x5_3 < ((rd_L1 l0 x4_2).length : Int)
                          · rw [if_pos c13] at H
                            have c13b0 : decide (x5_3 < ((rd_L1 l0 x4_2).length : Int)) = true := decide_eq_true c13
                            clear c13
                            by_cases c14 : (rd (rd_L1 l0 x4_2) x5_3) < 0
                            · rw [if_pos c14] at H
                              have c14b0 : decide ((rd (rd_L1 l0 x4_2) x5_3) < 0) = true := decide_eq_true c14
                              clear c14
                              obtain rfl := Option.some.inj H
                              obtain ⟨ad437, A437_0, c437_0, e437, hx437_0, HC437_0, HR437_0, p437, q437⟩ := al_ HR0.out x4_2
                              obtain rfl : ad436 = ad437 := (by injection e437)
                              obtain ⟨ad438, e438, hx438_0, p438, q438⟩ := ai_ HR437_0.out x5_3
                              cases e438
                              go_wp2
                              repeat (go_quiet (fail); try go_wp2)
                              go_ret
                              exact ⟨rf_, dr_⟩
                            · rw [if_neg c14] at H
                              have c14b0 : decide ((rd (rd_L1 l0 x4_2) x5_3) < 0) = false := decide_eq_false c14
                              clear c14
                              by_cases c15 : (rd (rd_L1 l0 x4_2) x5_3) > (wrap64 ((l0.length : Int) - 1))
                              · rw [if_pos c15] at H
                                have c15b0 : decide ((wrap64 ((l0.length : Int) - 1)) < (rd (rd_L1 l0 x4_2) x5_3)) = true := decide_eq_true c15
                                clear c15
                                obtain rfl := Option.some.inj H
                                obtain ⟨ad437, A437_0, c437_0, e437, hx437_0, HC437_0, HR437_0, p437, q437⟩ := al_ HR0.out x4_2
                                obtain rfl : ad436 = ad437 := (by injection e437)
                                obtain ⟨ad438, e438, hx438_0, p438, q438⟩ := ai_ HR437_0.out x5_3
                                cases e438
                                obtain ⟨ad439, A439_0, c439_0, e439, hx439_0, HC439_0, HR439_0, p439, q439⟩ := al_ HR0.out x4_2
                                obtain rfl : ad436 = ad439 := (by injection e439)
                                have ea_ := Option.some.inj (hx437_0.symm.trans hx439_0)
                                injection ea_ with ea_ en_ ec_
                                subst ea_
                                subst ec_
                                clear en_
                                obtain ⟨ad440, e440, hx440_0, p440, q440⟩ := ai_ HR439_0.out x5_3
                                cases e440
                                go_wp2
                                repeat (go_quiet (fail); try go_wp2)
                                go_ret
                                exact ⟨rf_, dr_⟩
                              · rw [if_neg c15] at H
                                have c15b0 : decide ((wrap64 ((l0.length : Int) - 1)) < (rd (rd_L1 l0 x4_2) x5_3)) = false := decide_eq_false c15
                                clear c15
                                have H' := Aside0.mk H
                                clear H
                                obtain ⟨ad437, A437_0, c437_0, e437, hx437_0, HC437_0, HR437_0, p437, q437⟩ := al_ HR0.out x4_2
                                obtain rfl : ad436 = ad437 := (by injection e437)
                                obtain ⟨ad438, e438, hx438_0, p438, q438⟩ := ai_ HR437_0.out x5_3
                                cases e438
                                obtain ⟨ad439, A439_0, c439_0, e439, hx439_0, HC439_0, HR439_0, p439, q439⟩ := al_ HR0.out x4_2
                                obtain rfl : ad436 = ad439 := (by injection e439)
                                have ea_ := Option.some.inj (hx437_0.symm.trans hx439_0)
                                injection ea_ with ea_ en_ ec_
                                subst ea_
                                subst ec_
                                clear en_
                                obtain ⟨ad440, e440, hx440_0, p440, q440⟩ := ai_ HR439_0.out x5_3
                                cases e440
                                go_wp2
                                repeat (go_quiet (fail); try go_wp2)
                                go_roundg k3
                                case measure => have := HJ1.out; have := HK2.out; have := HK3.out; omega
                                case rel => exact ⟨(wrap64 (x5_3 + 1)), rf_, H', ⟨by have := HJ1.out; have := HK2.out; have := HK3.out; omega⟩, dr_⟩
                          · rw [if_neg c13] at H
                            exact absurd H (by simp)
                        · rw [if_neg c12] at H
                          exact absurd H (by simp)
                      · rw [if_neg c11] at H
                        exact absurd H (by simp)
                    · rw [if_neg c10] at H
                      exact absurd H (by simp)
                  · rw [if_neg c9] at H
                    have c9b0 : decide (x5_3 ≤ (wrap64 ((l0.length : Int) - 1))) = false := decide_eq_false c9
                    clear c9
                    have H' := Aside0.mk H
                    clear H
                    go_wp2
                    repeat (go_quiet (fail); try go_wp2)
                    go_roundg k3
                    case measure => have := HJ1.out; have := HK2.out; have := HK3.out; omega
                    case rel => exact ⟨(wrap64 (x4_2 + 1)), rf_, H', ⟨by have := HJ1.out; have := HK2.out; have := HK3.out; omega⟩, dr_⟩
              · rw [if_neg c8] at H
                have c8b0 : (((rd_L1 l0 x4_2).length : Int) == (wrap64 ((wrap64 ((l0.length : Int) - 1)) + 1))) = false := beq_eq_false_iff_ne.mpr c8
                have c8b1 : (((rd_L1 l0 x4_2).length : Int) != (wrap64 ((wrap64 ((l0.length : Int) - 1)) + 1))) = true := bne_iff_ne.mpr c8
                obtain rfl := Option.some.inj H
                obtain ⟨ad436, A436_0, c436_0, e436, hx436_0, HC436_0, HR436_0, p436, q436⟩ := al_ HR0.out x4_2
                cases e436
                go_wp2
                repeat (go_quiet (fail); try go_wp2)
                go_ret
                exact ⟨rf_, dr_⟩
            · rw [if_neg c7] at H
              exact absurd H (by simp)
          · rw [if_neg c6] at H
            exact absurd H (by simp)
        · rw [if_neg c5] at H
          have c5b0 : decide (x4_2 ≤ (wrap64 ((l0.length : Int) - 1))) = false := decide_eq_false c5
          clear c5
          have H' := Aside0.mk H
          clear H
          go_wp2
          repeat (go_quiet (fail); try go_wp2)
          go_loopg [6] k2 (fun kq v6 w' => ∃ (x6_3 : Int), v6 = .int .i64 x6_3 ∧ Aside0 (clochelaw09_steep.l2 kq l0 (wrap64 ((l0.length : Int) - 1)) x6_3 = some r) ∧ Aside0 (kq ≤ k2) ∧ Drawn0 w w')
          case atStart => exact ⟨(0), rf_, H', ⟨Nat.le_refl _⟩, dr_⟩
          case round => as_aux_lemma =>
           clear H'
           try clear c1
           try clear c2
           try clear p2
           try clear c3
           try clear c3b0
           try clear c4
           try clear p4
           try clear q4
           try clear hx4
           try clear c5
           try clear c5b0
           try clear c6
           try clear c6b0
           try clear p6
           try clear c7
           try clear c7b0
           try clear c8
           try clear c8b0
           try clear c8b1
           try clear c9
           try clear c9b0
           try clear c10
           try clear c10b0
           try clear c11
           try clear c11b0
           try clear c12
           try clear c12b0
           try clear c13
           try clear c13b0
           try clear c14
           try clear c14b0
           try clear c15
           try clear c15b0
           try clear hx436_0
           try clear hx437_0
           try clear hx438_0
           try clear hx439_0
           try clear hx440_0
           try clear p2
           try clear p4
           try clear p436
           try clear p437
           try clear p438
           try clear p439
           try clear p440
           try clear p6
           try clear q4
           try clear q436
           try clear q437
           try clear q438
           try clear q439
           try clear q440
           obtain ⟨x6_3, rfl, HA, HK3, ⟨m3, rfl⟩⟩ := hrel
           cases gk with
           | zero => exact absurd HA.out (by simp [clochelaw09_steep.l2])
           | succ k3 =>
            have H := HA.out
            clear HA
            simp only [clochelaw09_steep.l2] at H
            by_cases c16 : x6_3 ≤ (wrap64 ((l0.length : Int) - 1))
            · rw [if_pos c16] at H
              have c16b0 : decide (x6_3 ≤ (wrap64 ((l0.length : Int) - 1))) = true := decide_eq_true c16
              clear c16
              have HC17 := Aside0.mk H
              clear H
              go_upto_region 17 with (fail)
              repeat (go_quiet (fail); go_upto_region 17 with (fail))
              go_cut [102] (fun v102 wc => ∃ (kq : Nat) (x102_16 : Bool), v102 = .bool x102_16 ∧ Aside0 (clochelaw09_steep.j4 kq l0 (wrap64 ((l0.length : Int) - 1)) x6_3 x102_16 = some r) ∧ Aside0 (kq ≤ k3) ∧ Drawn0 w wc)
              case first =>
               have H := HC17.out
               clear HC17
               by_cases c18 : 0 < (l0.length : Int)
               · rw [if_pos c18] at H
                 have c18b0 : decide (0 < (l0.length : Int)) = true := decide_eq_true c18
                 have c18b1 : decide (0 < l0.length) = true := decide_eq_true (by omega)
                 clear c18
                 (first | rw [c18b0] | (simp only [i64_w, i32_w]; rw [c18b0]) | skip)
                 by_cases c19 : 0 ≤ x6_3
                 · rw [if_pos c19] at H
                   have c19b0 : decide (0 ≤ x6_3) = true := decide_eq_true c19
                   clear c19
                   by_cases c20 : x6_3 < ((rd_L1 l0 0).length : Int)
                   · rw [if_pos c20] at H
                     have c20b0 : decide (x6_3 < ((rd_L1 l0 0).length : Int)) = true := decide_eq_true c20
                     clear c20
                     by_cases c21 : (rd (rd_L1 l0 0) x6_3) = x6_3
                     · rw [if_pos c21] at H
                       have c21b0 : ((rd (rd_L1 l0 0) x6_3) == x6_3) = true := beq_iff_eq.mpr c21
                       have c21b1 : ((rd (rd_L1 l0 0) x6_3) != x6_3) = false := bne_eq_false_iff_eq.mpr c21
                       clear c21
                       by_cases c22 : x6_3 < (l0.length : Int)
                       · rw [if_pos c22] at H
                         have c22b0 : decide (x6_3 < (l0.length : Int)) = true := decide_eq_true c22
                         clear c22
                         by_cases c23 : 0 < ((rd_L1 l0 x6_3).length : Int)
                         · rw [if_pos c23] at H
                           have c23b0 : decide (0 < ((rd_L1 l0 x6_3).length : Int)) = true := decide_eq_true c23
                           have c23b1 : decide (0 < (rd_L1 l0 x6_3).length) = true := decide_eq_true (by omega)
                           clear c23
                           by_cases c24 : (rd (rd_L1 l0 x6_3) 0) = x6_3
                           · rw [if_pos c24] at H
                             have c24b0 : ((rd (rd_L1 l0 x6_3) 0) == x6_3) = true := beq_iff_eq.mpr c24
                             have c24b1 : ((rd (rd_L1 l0 x6_3) 0) != x6_3) = false := bne_eq_false_iff_eq.mpr c24
                             clear c24
                             obtain ⟨ji25, hji25⟩ : ∃ j_ : Int, (wrap64 ((l0.length : Int) - 1)) = j_ := ⟨_, rfl⟩
                             replace H : (if 0 ≤ (ji25) then (if (ji25) < (l0.length : Int) then (if x6_3 < ((rd_L1 l0 (ji25)).length : Int) then (if (rd (rd_L1 l0 (ji25)) x6_3) = (wrap64 ((ji25) - x6_3)) then (if (ji25) < ((rd_L1 l0 x6_3).length : Int) then (clochelaw09_steep.j4 k3 l0 (ji25) x6_3 ((rd (rd_L1 l0 x6_3) (ji25)) != (wrap64 ((ji25) - x6_3)))) else (none)) else (clochelaw09_steep.j4 k3 l0 (ji25) x6_3 true)) else (none)) else (none)) else (none)) = some r := by first | (rw [hji25] at H; exact H) | (simp only [hji25] at H ⊢; exact H)
                             (try rw [hji25] at c5b0)
                             (try rw [hji25] at c16b0)
                             have hji25w : (IntKind.i64.wrap ((l0.length : Int) - 1)) = ji25 := (i64_w _).trans hji25
                             by_cases c26 : 0 ≤ (ji25)
                             · rw [if_pos c26] at H
                               have c26b0 : decide (0 ≤ (ji25)) = true := decide_eq_true c26
                               clear c26
                               by_cases c27 : (ji25) < (l0.length : Int)
                               · rw [if_pos c27] at H
                                 have c27b0 : decide ((ji25) < (l0.length : Int)) = true := decide_eq_true c27
                                 clear c27
                                 by_cases c28 : x6_3 < ((rd_L1 l0 (ji25)).length : Int)
                                 · rw [if_pos c28] at H
                                   have c28b0 : decide (x6_3 < ((rd_L1 l0 (ji25)).length : Int)) = true := decide_eq_true c28
                                   clear c28
                                   by_cases c29 : (rd (rd_L1 l0 (ji25)) x6_3) = (wrap64 ((ji25) - x6_3))
                                   · rw [if_pos c29] at H
                                     have c29b0 : ((rd (rd_L1 l0 (ji25)) x6_3) == (wrap64 ((ji25) - x6_3))) = true := beq_iff_eq.mpr c29
                                     have c29b1 : ((rd (rd_L1 l0 (ji25)) x6_3) != (wrap64 ((ji25) - x6_3))) = false := bne_eq_false_iff_eq.mpr c29
                                     clear c29
                                     by_cases c30 : (ji25) < ((rd_L1 l0 x6_3).length : Int)
                                     · rw [if_pos c30] at H
                                       have c30b0 : decide ((ji25) < ((rd_L1 l0 x6_3).length : Int)) = true := decide_eq_true c30
                                       clear c30
                                       have H' := Aside0.mk H
                                       clear H
                                       have p441 : 0 ≤ (0 : Int) := (by omega)
                                       have q441 : 0 < (l0.length : Int) := od_
                                       obtain ⟨ad441, A441_0, c441_0, e441, hx441_0, hl441_0, hi441_0⟩ := at_L1 HR0.out 0 p441 q441
                                       cases e441
                                       have qi441 : (0 < l0.length) = True := eq_true (by omega)
                                       (try rw [show ((0 : Int)).toNat = 0 from rfl] at hx441_0)
                                       (try rw [Addr.add_zero'] at hx441_0)
                                       have HR441_0 := Aside0.mk hi441_0
                                       have HC441_0 := Aside0.mk hl441_0
                                       clear hi441_0 hl441_0
                                       replace p441 := eq_true p441
                                       replace q441 := eq_true q441
                                       obtain ⟨ad442, e442, hx442_0, p442, q442⟩ := ai_ HR441_0.out x6_3
                                       cases e442
                                       obtain ⟨ad443, A443_0, c443_0, e443, hx443_0, HC443_0, HR443_0, p443, q443⟩ := al_ HR0.out x6_3
                                       obtain rfl : ad441 = ad443 := (by injection e443)
                                       have p444 : 0 ≤ (0 : Int) := (by omega)
                                       have q444 : 0 < ((rd_L1 l0 x6_3).length : Int) := od_
                                       obtain ⟨ad444, e444, hx444_0⟩ := Kd.at_int HR443_0.out 0 p444 q444
                                       cases e444
                                       have qi444 : (0 < (rd_L1 l0 x6_3).length) = True := eq_true (by omega)
                                       (try rw [show ((0 : Int)).toNat = 0 from rfl] at hx444_0)
                                       (try rw [Addr.add_zero'] at hx444_0)
                                       replace p444 := eq_true p444
                                       replace q444 := eq_true q444
                                       obtain ⟨ad445, A445_0, c445_0, e445, hx445_0, HC445_0, HR445_0, p445, q445⟩ := al_ HR0.out (ji25)
                                       obtain rfl : ad441 = ad445 := (by injection e445)
                                       obtain ⟨ad446, e446, hx446_0, p446, q446⟩ := ai_ HR445_0.out x6_3
                                       cases e446
                                       obtain ⟨ad447, A447_0, c447_0, e447, hx447_0, HC447_0, HR447_0, p447, q447⟩ := al_ HR0.out x6_3
                                       obtain rfl : ad441 = ad447 := (by injection e447)
                                       have ea_ := Option.some.inj (hx443_0.symm.trans hx447_0)
                                       injection ea_ with ea_ en_ ec_
                                       subst ea_
                                       subst ec_
                                       clear en_
                                       obtain ⟨ad448, e448, hx448_0, p448, q448⟩ := ai_ HR447_0.out (ji25)
                                       cases e448
                                       go_wp2
                                       repeat (go_quiet (fail); try go_wp2)
                                       try clear hji25w
                                       try subst hji25
                                       go_meet
                                       case rel => exact ⟨_, (((rd (rd_L1 l0 x6_3) (wrap64 ((l0.length : Int) - 1))) != (wrap64 ((wrap64 ((l0.length : Int) - 1)) - x6_3)))), rf_, H', ⟨by have := HJ1.out; have := HK2.out; have := HK3.out; first | omega | exact Nat.le_refl _⟩, dr_⟩
                                     · rw [if_neg c30] at H
                                       exact absurd H (by simp)
                                   · rw [if_neg c29] at H
                                     have c29b0 : ((rd (rd_L1 l0 (ji25)) x6_3) == (wrap64 ((ji25) - x6_3))) = false := beq_eq_false_iff_ne.mpr c29
                                     have c29b1 : ((rd (rd_L1 l0 (ji25)) x6_3) != (wrap64 ((ji25) - x6_3))) = true := bne_iff_ne.mpr c29
                                     have H' := Aside0.mk H
                                     clear H
                                     have p441 : 0 ≤ (0 : Int) := (by omega)
                                     have q441 : 0 < (l0.length : Int) := od_
                                     obtain ⟨ad441, A441_0, c441_0, e441, hx441_0, hl441_0, hi441_0⟩ := at_L1 HR0.out 0 p441 q441
                                     cases e441
                                     have qi441 : (0 < l0.length) = True := eq_true (by omega)
                                     (try rw [show ((0 : Int)).toNat = 0 from rfl] at hx441_0)
                                     (try rw [Addr.add_zero'] at hx441_0)
                                     have HR441_0 := Aside0.mk hi441_0
                                     have HC441_0 := Aside0.mk hl441_0
                                     clear hi441_0 hl441_0
                                     replace p441 := eq_true p441
                                     replace q441 := eq_true q441
                                     obtain ⟨ad442, e442, hx442_0, p442, q442⟩ := ai_ HR441_0.out x6_3
                                     cases e442
                                     obtain ⟨ad443, A443_0, c443_0, e443, hx443_0, HC443_0, HR443_0, p443, q443⟩ := al_ HR0.out x6_3
                                     obtain rfl : ad441 = ad443 := (by injection e443)
                                     have p444 : 0 ≤ (0 : Int) := (by omega)
                                     have q444 : 0 < ((rd_L1 l0 x6_3).length : Int) := od_
                                     obtain ⟨ad444, e444, hx444_0⟩ := Kd.at_int HR443_0.out 0 p444 q444
                                     cases e444
                                     have qi444 : (0 < (rd_L1 l0 x6_3).length) = True := eq_true (by omega)
                                     (try rw [show ((0 : Int)).toNat = 0 from rfl] at hx444_0)
                                     (try rw [Addr.add_zero'] at hx444_0)
                                     replace p444 := eq_true p444
                                     replace q444 := eq_true q444
                                     obtain ⟨ad445, A445_0, c445_0, e445, hx445_0, HC445_0, HR445_0, p445, q445⟩ := al_ HR0.out (ji25)
                                     obtain rfl : ad441 = ad445 := (by injection e445)
                                     obtain ⟨ad446, e446, hx446_0, p446, q446⟩ := ai_ HR445_0.out x6_3
                                     cases e446
                                     go_wp2
                                     repeat (go_quiet (fail); try go_wp2)
                                     try clear hji25w
                                     try subst hji25
                                     go_meet
                                     case rel => exact ⟨_, (true), rf_, H', ⟨by have := HJ1.out; have := HK2.out; have := HK3.out; first | omega | exact Nat.le_refl _⟩, dr_⟩
                                 · rw [if_neg c28] at H
                                   exact absurd H (by simp)
                               · rw [if_neg c27] at H
                                 exact absurd H (by simp)
                             · rw [if_neg c26] at H
                               exact absurd H (by simp)
                           · rw [if_neg c24] at H
                             have c24b0 : ((rd (rd_L1 l0 x6_3) 0) == x6_3) = false := beq_eq_false_iff_ne.mpr c24
                             have c24b1 : ((rd (rd_L1 l0 x6_3) 0) != x6_3) = true := bne_iff_ne.mpr c24
                             have H' := Aside0.mk H
                             clear H
                             have p441 : 0 ≤ (0 : Int) := (by omega)
                             have q441 : 0 < (l0.length : Int) := od_
                             obtain ⟨ad441, A441_0, c441_0, e441, hx441_0, hl441_0, hi441_0⟩ := at_L1 HR0.out 0 p441 q441
                             cases e441
                             have qi441 : (0 < l0.length) = True := eq_true (by omega)
                             (try rw [show ((0 : Int)).toNat = 0 from rfl] at hx441_0)
                             (try rw [Addr.add_zero'] at hx441_0)
                             have HR441_0 := Aside0.mk hi441_0
                             have HC441_0 := Aside0.mk hl441_0
                             clear hi441_0 hl441_0
                             replace p441 := eq_true p441
                             replace q441 := eq_true q441
                             obtain ⟨ad442, e442, hx442_0, p442, q442⟩ := ai_ HR441_0.out x6_3
                             cases e442
                             obtain ⟨ad443, A443_0, c443_0, e443, hx443_0, HC443_0, HR443_0, p443, q443⟩ := al_ HR0.out x6_3
                             obtain rfl : ad441 = ad443 := (by injection e443)
                             have p444 : 0 ≤ (0 : Int) := (by omega)
                             have q444 : 0 < ((rd_L1 l0 x6_3).length : Int) := od_
                             obtain ⟨ad444, e444, hx444_0⟩ := Kd.at_int HR443_0.out 0 p444 q444
                             cases e444
                             have qi444 : (0 < (rd_L1 l0 x6_3).length) = True := eq_true (by omega)
                             (try rw [show ((0 : Int)).toNat = 0 from rfl] at hx444_0)
                             (try rw [Addr.add_zero'] at hx444_0)
                             replace p444 := eq_true p444
                             replace q444 := eq_true q444
                             go_wp2
                             repeat (go_quiet (fail); try go_wp2)
                             go_meet
                             case rel => exact ⟨_, (true), rf_, H', ⟨by have := HJ1.out; have := HK2.out; have := HK3.out; first | omega | exact Nat.le_refl _⟩, dr_⟩
                         · rw [if_neg c23] at H
                           exact absurd H (by simp)
                       · rw [if_neg c22] at H
                         exact absurd H (by simp)
                     · rw [if_neg c21] at H
                       have c21b0 : ((rd (rd_L1 l0 0) x6_3) == x6_3) = false := beq_eq_false_iff_ne.mpr c21
                       have c21b1 : ((rd (rd_L1 l0 0) x6_3) != x6_3) = true := bne_iff_ne.mpr c21
                       have H' := Aside0.mk H
                       clear H
                       have p441 : 0 ≤ (0 : Int) := (by omega)
                       have q441 : 0 < (l0.length : Int) := od_
                       obtain ⟨ad441, A441_0, c441_0, e441, hx441_0, hl441_0, hi441_0⟩ := at_L1 HR0.out 0 p441 q441
                       cases e441
                       have qi441 : (0 < l0.length) = True := eq_true (by omega)
                       (try rw [show ((0 : Int)).toNat = 0 from rfl] at hx441_0)
                       (try rw [Addr.add_zero'] at hx441_0)
                       have HR441_0 := Aside0.mk hi441_0
                       have HC441_0 := Aside0.mk hl441_0
                       clear hi441_0 hl441_0
                       replace p441 := eq_true p441
                       replace q441 := eq_true q441
                       obtain ⟨ad442, e442, hx442_0, p442, q442⟩ := ai_ HR441_0.out x6_3
                       cases e442
                       go_wp2
                       repeat (go_quiet (fail); try go_wp2)
                       go_meet
                       case rel => exact ⟨_, (true), rf_, H', ⟨by have := HJ1.out; have := HK2.out; have := HK3.out; first | omega | exact Nat.le_refl _⟩, dr_⟩
                   · rw [if_neg c20] at H
                     exact absurd H (by simp)
                 · rw [if_neg c19] at H
                   exact absurd H (by simp)
               · rw [if_neg c18] at H
                 exact absurd H (by simp)
              case rest =>
               clear HC17
               try clear c1
               try clear c2
               try clear p2
               try clear c3
               try clear c3b0
               try clear c4
               try clear p4
               try clear q4
               try clear hx4
               try clear qi4
               try clear c5
               try clear c5b0
               try clear c6
               try clear c6b0
               try clear p6
               try clear c7
               try clear c7b0
               try clear c8
               try clear c8b0
               try clear c8b1
               try clear c9
               try clear c9b0
               try clear c10
               try clear c10b0
               try clear c11
               try clear c11b0
               try clear c12
               try clear c12b0
               try clear c13
               try clear c13b0
               try clear c14
               try clear c14b0
               try clear c15
               try clear c15b0
               try clear c16
               try clear c16b0
               try clear c18
               try clear c18b0
               try clear c18b1
               try clear c19
               try clear c19b0
               try clear c20
               try clear c20b0
               try clear c21
               try clear c21b0
               try clear c21b1
               try clear c22
               try clear c22b0
               try clear c23
               try clear c23b0
               try clear c23b1
               try clear c24
               try clear c24b0
               try clear c24b1
               try clear c26
               try clear c26b0
               try clear c27
               try clear c27b0
               try clear c28
               try clear c28b0
               try clear c29
               try clear c29b0
               try clear c29b1
               try clear c30
               try clear c30b0
               try clear hx436_0
               try clear hx437_0
               try clear hx438_0
               try clear hx439_0
               try clear hx440_0
               try clear hx441_0
               try clear hx442_0
               try clear hx443_0
               try clear hx444_0
               try clear hx445_0
               try clear hx446_0
               try clear hx447_0
               try clear hx448_0
               try clear p2
               try clear p4
               try clear p436
               try clear p437
               try clear p438
               try clear p439
               try clear p440
               try clear p441
               try clear p442
               try clear p443
               try clear p444
               try clear p445
               try clear p446
               try clear p447
               try clear p448
               try clear p6
               try clear q4
               try clear q436
               try clear q437
               try clear q438
               try clear q439
               try clear q440
               try clear q441
               try clear q442
               try clear q443
               try clear q444
               try clear q445
               try clear q446
               try clear q447
               try clear q448
               obtain ⟨kq, x102_16, rfl, HA, HJ16, ⟨mc16, rfl⟩⟩ := hcut
               cases kq with
               | zero => exact absurd HA.out (by simp [clochelaw09_steep.j4])
               | succ kj16 =>
                 have H := HA.out
                 clear HA
                 simp only [clochelaw09_steep.j4] at H
                 by_cases c31 : x102_16 = true
                 · subst c31
                   have H1 : (some false) = some r := by rw [if_pos rfl] at H; exact H
                   clear H
                   have H := H1
                   clear H1
                   obtain rfl := Option.some.inj H
                   go_wp2
                   repeat (go_quiet (fail); try go_wp2)
                   go_ret
                   exact ⟨rf_, dr_⟩
                 · replace c31 := Bool.eq_false_iff.mpr c31
                   subst c31
                   have H1 : (clochelaw09_steep.l3 kj16 l0 (wrap64 ((l0.length : Int) - 1)) x6_3 0) = some r := by rw [if_neg (show ¬ (false = true) by decide)] at H; exact H
                   clear H
                   have H := H1
                   clear H1
                   have H' := Aside0.mk H
                   clear H
                   go_wp2
                   repeat (go_quiet (fail); try go_wp2)
                   go_loopg [7] kj16 (fun kq v7 w' => ∃ (x7_5 : Int), v7 = .int .i64 x7_5 ∧ Aside0 (clochelaw09_steep.l3 kq l0 (wrap64 ((l0.length : Int) - 1)) x6_3 x7_5 = some r) ∧ Aside0 (kq ≤ kj16) ∧ Drawn0 w w')
                   case atStart => exact ⟨(0), rf_, H', ⟨Nat.le_refl _⟩, dr_⟩
                   case round => as_aux_lemma =>
                    clear H'
                    try clear c1
                    try clear c2
                    try clear p2
                    try clear c3
                    try clear c3b0
                    try clear c4
                    try clear p4
                    try clear q4
                    try clear hx4
                    try clear qi4
                    try clear c5
                    try clear c5b0
                    try clear c6
                    try clear c6b0
                    try clear p6
                    try clear c7
                    try clear c7b0
                    try clear c8
                    try clear c8b0
                    try clear c8b1
                    try clear c9
                    try clear c9b0
                    try clear c10
                    try clear c10b0
                    try clear c11
                    try clear c11b0
                    try clear c12
                    try clear c12b0
                    try clear c13
                    try clear c13b0
                    try clear c14
                    try clear c14b0
                    try clear c15
                    try clear c15b0
                    try clear c16
                    try clear c16b0
                    try clear c18
                    try clear c18b0
                    try clear c18b1
                    try clear c19
                    try clear c19b0
                    try clear c20
                    try clear c20b0
                    try clear c21
                    try clear c21b0
                    try clear c21b1
                    try clear c22
                    try clear c22b0
                    try clear c23
                    try clear c23b0
                    try clear c23b1
                    try clear c24
                    try clear c24b0
                    try clear c24b1
                    try clear c26
                    try clear c26b0
                    try clear c27
                    try clear c27b0
                    try clear c28
                    try clear c28b0
                    try clear c29
                    try clear c29b0
                    try clear c29b1
                    try clear c30
                    try clear c30b0
                    try clear c31
                    try clear hx436_0
                    try clear hx437_0
                    try clear hx438_0
                    try clear hx439_0
                    try clear hx440_0
                    try clear hx441_0
                    try clear hx442_0
                    try clear hx443_0
                    try clear hx444_0
                    try clear hx445_0
                    try clear hx446_0
                    try clear hx447_0
                    try clear hx448_0
                    try clear p2
                    try clear p4
                    try clear p436
                    try clear p437
                    try clear p438
                    try clear p439
                    try clear p440
                    try clear p441
                    try clear p442
                    try clear p443
                    try clear p444
                    try clear p445
                    try clear p446
                    try clear p447
                    try clear p448
                    try clear p6
                    try clear q4
                    try clear q436
                    try clear q437
                    try clear q438
                    try clear q439
                    try clear q440
                    try clear q441
                    try clear q442
                    try clear q443
                    try clear q444
                    try clear q445
                    try clear q446
                    try clear q447
                    try clear q448
                    obtain ⟨x7_5, rfl, HA, HK5, ⟨m5, rfl⟩⟩ := hrel
                    cases gk with
                    | zero => exact absurd HA.out (by simp [clochelaw09_steep.l3])
                    | succ k5 =>
                     have H := HA.out
                     clear HA
                     simp only [clochelaw09_steep.l3] at H
                     by_cases c32 : x7_5 < (wrap64 ((l0.length : Int) - 1))
                     · rw [if_pos c32] at H
                       have c32b0 : decide (x7_5 < (wrap64 ((l0.length : Int) - 1))) = true := decide_eq_true c32
                       clear c32
                       by_cases c33 : 0 ≤ x6_3
                       · rw [if_pos c33] at H
                         have c33b0 : decide (0 ≤ x6_3) = true := decide_eq_true c33
                         clear c33
                         by_cases c34 : x6_3 < (l0.length : Int)
                         · rw [if_pos c34] at H
                           have c34b0 : decide (x6_3 < (l0.length : Int)) = true := decide_eq_true c34
                           clear c34
                           obtain ⟨ji35, hji35⟩ : ∃ j_ : Int, (wrap64 (x7_5 + 1)) = j_ := ⟨_, rfl⟩
                           replace H : (if 0 ≤ (ji35) then (if (ji35) < ((rd_L1 l0 x6_3).length : Int) then (if 0 ≤ x7_5 then (if x7_5 < ((rd_L1 l0 x6_3).length : Int) then (if (wrap64 ((rd (rd_L1 l0 x6_3) (ji35)) - (rd (rd_L1 l0 x6_3) x7_5))) = 1 then (if (ji35) < (l0.length : Int) then (if x6_3 < ((rd_L1 l0 (ji35)).length : Int) then (if x7_5 < (l0.length : Int) then (if x6_3 < ((rd_L1 l0 x7_5).length : Int) then (if (wrap64 ((rd (rd_L1 l0 (ji35)) x6_3) - (rd (rd_L1 l0 x7_5) x6_3))) = 1 then (clochelaw09_steep.l3 k5 l0 (wrap64 ((l0.length : Int) - 1)) x6_3 ji35) else (if (wrap64 ((rd (rd_L1 l0 (ji35)) x6_3) - (rd (rd_L1 l0 x7_5) x6_3))) = (-1) then (clochelaw09_steep.l3 k5 l0 (wrap64 ((l0.length : Int) - 1)) x6_3 ji35) else (some false))) else (none)) else (none)) else (none)) else (none)) else (if (wrap64 ((rd (rd_L1 l0 x6_3) (ji35)) - (rd (rd_L1 l0 x6_3) x7_5))) = (-1) then (if (ji35) < (l0.length : Int) then (if x6_3 < ((rd_L1 l0 (ji35)).length : Int) then (if x7_5 < (l0.length : Int) then (if x6_3 < ((rd_L1 l0 x7_5).length : Int) then (if (wrap64 ((rd (rd_L1 l0 (ji35)) x6_3) - (rd (rd_L1 l0 x7_5) x6_3))) = 1 then (clochelaw09_steep.l3 k5 l0 (wrap64 ((l0.length : Int) - 1)) x6_3 ji35) else (if (wrap64 ((rd (rd_L1 l0 (ji35)) x6_3) - (rd (rd_L1 l0 x7_5) x6_3))) = (-1) then (clochelaw09_steep.l3 k5 l0 (wrap64 ((l0.length : Int) - 1)) x6_3 ji35) else (some false))) else (none)) else (none)) else (none)) else (none)) else (some false))) else (none)) else (none)) else (none)) else (none)) = some r := by first | (rw [hji35] at H; exact H) | (simp only [hji35] at H ⊢; exact H)
                           have hji35w : (IntKind.i64.wrap (x7_5 + 1)) = ji35 := (i64_w _).trans hji35
                           by_cases c36 : 0 ≤ (ji35)
                           · rw [if_pos c36] at H
                             have c36b0 : decide (0 ≤ (ji35)) = true := decide_eq_true c36
                             clear c36
                             by_cases c37 : (ji35) < ((rd_L1 l0 x6_3).length : Int)
                             · rw [if_pos c37] at H
                               have c37b0 : decide ((ji35) < ((rd_L1 l0 x6_3).length : Int)) = true := decide_eq_true c37
                               clear c37
                               by_cases c38 : 0 ≤ x7_5
                               · rw [if_pos c38] at H
                                 have c38b0 : decide (0 ≤ x7_5) = true := decide_eq_true c38
                                 clear c38
                                 by_cases c39 : x7_5 < ((rd_L1 l0 x6_3).length : Int)
                                 · rw [if_pos c39] at H
                                   have c39b0 : decide (x7_5 < ((rd_L1 l0 x6_3).length : Int)) = true := decide_eq_true c39
                                   clear c39
                                   by_cases c40 : (wrap64 ((rd (rd_L1 l0 x6_3) (ji35)) - (rd (rd_L1 l0 x6_3) x7_5))) = 1
                                   · rw [if_pos c40] at H
                                     have c40b0 : ((wrap64 ((rd (rd_L1 l0 x6_3) (ji35)) - (rd (rd_L1 l0 x6_3) x7_5))) == 1) = true := beq_iff_eq.mpr c40
                                     have c40b1 : ((wrap64 ((rd (rd_L1 l0 x6_3) (ji35)) - (rd (rd_L1 l0 x6_3) x7_5))) != 1) = false := bne_eq_false_iff_eq.mpr c40
                                     clear c40
                                     by_cases c41 : (ji35) < (l0.length : Int)
                                     · rw [if_pos c41] at H
                                       have c41b0 : decide ((ji35) < (l0.length : Int)) = true := decide_eq_true c41
                                       clear c41
                                       by_cases c42 : x6_3 < ((rd_L1 l0 (ji35)).length : Int)
                                       · rw [if_pos c42] at H
                                         have c42b0 : decide (x6_3 < ((rd_L1 l0 (ji35)).length : Int)) = true := decide_eq_true c42
                                         clear c42
                                         by_cases c43 : x7_5 < (l0.length : Int)
                                         · rw [if_pos c43] at H
                                           have c43b0 : decide (x7_5 < (l0.length : Int)) = true := decide_eq_true c43
                                           clear c43
                                           by_cases c44 : x6_3 < ((rd_L1 l0 x7_5).length : Int)
                                           · rw [if_pos c44] at H
                                             have c44b0 : decide (x6_3 < ((rd_L1 l0 x7_5).length : Int)) = true := decide_eq_true c44
                                             clear c44
                                             by_cases c45 : (wrap64 ((rd (rd_L1 l0 (ji35)) x6_3) - (rd (rd_L1 l0 x7_5) x6_3))) = 1
                                             · rw [if_pos c45] at H
                                               have c45b0 : ((wrap64 ((rd (rd_L1 l0 (ji35)) x6_3) - (rd (rd_L1 l0 x7_5) x6_3))) == 1) = true := beq_iff_eq.mpr c45
                                               have c45b1 : ((wrap64 ((rd (rd_L1 l0 (ji35)) x6_3) - (rd (rd_L1 l0 x7_5) x6_3))) != 1) = false := bne_eq_false_iff_eq.mpr c45
                                               clear c45
                                               have H' := Aside0.mk H
                                               clear H
                                               obtain ⟨ad449, A449_0, c449_0, e449, hx449_0, HC449_0, HR449_0, p449, q449⟩ := al_ HR0.out x6_3
                                               cases e449
                                               obtain ⟨ad450, e450, hx450_0, p450, q450⟩ := ai_ HR449_0.out (ji35)
                                               cases e450
                                               obtain ⟨ad451, A451_0, c451_0, e451, hx451_0, HC451_0, HR451_0, p451, q451⟩ := al_ HR0.out x6_3
                                               obtain rfl : ad449 = ad451 := (by injection e451)
                                               have ea_ := Option.some.inj (hx449_0.symm.trans hx451_0)
                                               injection ea_ with ea_ en_ ec_
                                               subst ea_
                                               subst ec_
                                               clear en_
                                               obtain ⟨ad452, e452, hx452_0, p452, q452⟩ := ai_ HR451_0.out x7_5
                                               cases e452
                                               obtain ⟨ad453, A453_0, c453_0, e453, hx453_0, HC453_0, HR453_0, p453, q453⟩ := al_ HR0.out (ji35)
                                               obtain rfl : ad449 = ad453 := (by injection e453)
                                               obtain ⟨ad454, e454, hx454_0, p454, q454⟩ := ai_ HR453_0.out x6_3
                                               cases e454
                                               obtain ⟨ad455, A455_0, c455_0, e455, hx455_0, HC455_0, HR455_0, p455, q455⟩ := al_ HR0.out x7_5
                                               obtain rfl : ad449 = ad455 := (by injection e455)
                                               obtain ⟨ad456, e456, hx456_0, p456, q456⟩ := ai_ HR455_0.out x6_3
                                               cases e456
                                               go_wp2
                                               repeat (go_quiet (fail); try go_wp2)
                                               go_roundg k5
                                               case measure => have := HJ1.out; have := HK2.out; have := HK3.out; have := HJ16.out; have := HK5.out; omega
                                               case rel => exact ⟨(ji35), (by first | rfl | (simp; done) | (simp only [← hji35] <;> (first | rfl | simp)) | (simp [*]; done)), H', ⟨by have := HJ1.out; have := HK2.out; have := HK3.out; have := HJ16.out; have := HK5.out; omega⟩, dr_⟩
                                             · rw [if_neg c45] at H
                                               have c45b0 : ((wrap64 ((rd (rd_L1 l0 (ji35)) x6_3) - (rd (rd_L1 l0 x7_5) x6_3))) == 1) = false := beq_eq_false_iff_ne.mpr c45
                                               have c45b1 : ((wrap64 ((rd (rd_L1 l0 (ji35)) x6_3) - (rd (rd_L1 l0 x7_5) x6_3))) != 1) = true := bne_iff_ne.mpr c45
                                               by_cases c46 : (wrap64 ((rd (rd_L1 l0 (ji35)) x6_3) - (rd (rd_L1 l0 x7_5) x6_3))) = (-1)
                                               · rw [if_pos c46] at H
                                                 have c46b0 : ((wrap64 ((rd (rd_L1 l0 (ji35)) x6_3) - (rd (rd_L1 l0 x7_5) x6_3))) == (-1)) = true := beq_iff_eq.mpr c46
                                                 have c46b1 : ((wrap64 ((rd (rd_L1 l0 (ji35)) x6_3) - (rd (rd_L1 l0 x7_5) x6_3))) != (-1)) = false := bne_eq_false_iff_eq.mpr c46
                                                 clear c46
                                                 have H' := Aside0.mk H
                                                 clear H
                                                 obtain ⟨ad449, A449_0, c449_0, e449, hx449_0, HC449_0, HR449_0, p449, q449⟩ := al_ HR0.out x6_3
                                                 cases e449
                                                 obtain ⟨ad450, e450, hx450_0, p450, q450⟩ := ai_ HR449_0.out (ji35)
                                                 cases e450
                                                 obtain ⟨ad451, A451_0, c451_0, e451, hx451_0, HC451_0, HR451_0, p451, q451⟩ := al_ HR0.out x6_3
                                                 obtain rfl : ad449 = ad451 := (by injection e451)
                                                 have ea_ := Option.some.inj (hx449_0.symm.trans hx451_0)
                                                 injection ea_ with ea_ en_ ec_
                                                 subst ea_
                                                 subst ec_
                                                 clear en_
                                                 obtain ⟨ad452, e452, hx452_0, p452, q452⟩ := ai_ HR451_0.out x7_5
                                                 cases e452
                                                 obtain ⟨ad453, A453_0, c453_0, e453, hx453_0, HC453_0, HR453_0, p453, q453⟩ := al_ HR0.out (ji35)
                                                 obtain rfl : ad449 = ad453 := (by injection e453)
                                                 obtain ⟨ad454, e454, hx454_0, p454, q454⟩ := ai_ HR453_0.out x6_3
                                                 cases e454
                                                 obtain ⟨ad455, A455_0, c455_0, e455, hx455_0, HC455_0, HR455_0, p455, q455⟩ := al_ HR0.out x7_5
                                                 obtain rfl : ad449 = ad455 := (by injection e455)
                                                 obtain ⟨ad456, e456, hx456_0, p456, q456⟩ := ai_ HR455_0.out x6_3
                                                 cases e456
                                                 obtain ⟨ad457, A457_0, c457_0, e457, hx457_0, HC457_0, HR457_0, p457, q457⟩ := al_ HR0.out (ji35)
                                                 obtain rfl : ad449 = ad457 := (by injection e457)
                                                 have ea_ := Option.some.inj (hx453_0.symm.trans hx457_0)
                                                 injection ea_ with ea_ en_ ec_
                                                 subst ea_
                                                 subst ec_
                                                 clear en_
                                                 obtain ⟨ad458, e458, hx458_0, p458, q458⟩ := ai_ HR457_0.out x6_3
                                                 cases e458
                                                 obtain ⟨ad459, A459_0, c459_0, e459, hx459_0, HC459_0, HR459_0, p459, q459⟩ := al_ HR0.out x7_5
                                                 obtain rfl : ad449 = ad459 := (by injection e459)
                                                 have ea_ := Option.some.inj (hx455_0.symm.trans hx459_0)
                                                 injection ea_ with ea_ en_ ec_
                                                 subst ea_
                                                 subst ec_
                                                 clear en_
                                                 obtain ⟨ad460, e460, hx460_0, p460, q460⟩ := ai_ HR459_0.out x6_3
                                                 cases e460
                                                 go_wp2
                                                 repeat (go_quiet (fail); try go_wp2)
                                                 go_roundg k5
                                                 case measure => have := HJ1.out; have := HK2.out; have := HK3.out; have := HJ16.out; have := HK5.out; omega
                                                 case rel => exact ⟨(ji35), (by first | rfl | (simp; done) | (simp only [← hji35] <;> (first | rfl | simp)) | (simp [*]; done)), H', ⟨by have := HJ1.out; have := HK2.out; have := HK3.out; have := HJ16.out; have := HK5.out; omega⟩, dr_⟩
                                               · rw [if_neg c46] at H
                                                 have c46b0 : ((wrap64 ((rd (rd_L1 l0 (ji35)) x6_3) - (rd (rd_L1 l0 x7_5) x6_3))) == (-1)) = false := beq_eq_false_iff_ne.mpr c46
                                                 have c46b1 : ((wrap64 ((rd (rd_L1 l0 (ji35)) x6_3) - (rd (rd_L1 l0 x7_5) x6_3))) != (-1)) = true := bne_iff_ne.mpr c46
                                                 obtain rfl := Option.some.inj H
                                                 obtain ⟨ad449, A449_0, c449_0, e449, hx449_0, HC449_0, HR449_0, p449, q449⟩ := al_ HR0.out x6_3
                                                 cases e449
                                                 obtain ⟨ad450, e450, hx450_0, p450, q450⟩ := ai_ HR449_0.out (ji35)
                                                 cases e450
                                                 obtain ⟨ad451, A451_0, c451_0, e451, hx451_0, HC451_0, HR451_0, p451, q451⟩ := al_ HR0.out x6_3
                                                 obtain rfl : ad449 = ad451 := (by injection e451)
                                                 have ea_ := Option.some.inj (hx449_0.symm.trans hx451_0)
                                                 injection ea_ with ea_ en_ ec_
                                                 subst ea_
                                                 subst ec_
                                                 clear en_
                                                 obtain ⟨ad452, e452, hx452_0, p452, q452⟩ := ai_ HR451_0.out x7_5
                                                 cases e452
                                                 obtain ⟨ad453, A453_0, c453_0, e453, hx453_0, HC453_0, HR453_0, p453, q453⟩ := al_ HR0.out (ji35)
                                                 obtain rfl : ad449 = ad453 := (by injection e453)
                                                 obtain ⟨ad454, e454, hx454_0, p454, q454⟩ := ai_ HR453_0.out x6_3
                                                 cases e454
                                                 obtain ⟨ad455, A455_0, c455_0, e455, hx455_0, HC455_0, HR455_0, p455, q455⟩ := al_ HR0.out x7_5
                                                 obtain rfl : ad449 = ad455 := (by injection e455)
                                                 obtain ⟨ad456, e456, hx456_0, p456, q456⟩ := ai_ HR455_0.out x6_3
                                                 cases e456
                                                 obtain ⟨ad457, A457_0, c457_0, e457, hx457_0, HC457_0, HR457_0, p457, q457⟩ := al_ HR0.out (ji35)
                                                 obtain rfl : ad449 = ad457 := (by injection e457)
                                                 have ea_ := Option.some.inj (hx453_0.symm.trans hx457_0)
                                                 injection ea_ with ea_ en_ ec_
                                                 subst ea_
                                                 subst ec_
                                                 clear en_
                                                 obtain ⟨ad458, e458, hx458_0, p458, q458⟩ := ai_ HR457_0.out x6_3
                                                 cases e458
                                                 obtain ⟨ad459, A459_0, c459_0, e459, hx459_0, HC459_0, HR459_0, p459, q459⟩ := al_ HR0.out x7_5
                                                 obtain rfl : ad449 = ad459 := (by injection e459)
                                                 have ea_ := Option.some.inj (hx455_0.symm.trans hx459_0)
                                                 injection ea_ with ea_ en_ ec_
                                                 subst ea_
                                                 subst ec_
                                                 clear en_
                                                 obtain ⟨ad460, e460, hx460_0, p460, q460⟩ := ai_ HR459_0.out x6_3
                                                 cases e460
                                                 go_wp2
                                                 repeat (go_quiet (fail); try go_wp2)
                                                 go_ret
                                                 exact ⟨by first | rfl | (simp; done) | (simp only [← hji35] <;> (first | rfl | simp)) | (simp [*]; done), dr_⟩
                                           · rw [if_neg c44] at H
                                             exact absurd H (by simp)
                                         · rw [if_neg c43] at H
                                           exact absurd H (by simp)
                                       · rw [if_neg c42] at H
                                         exact absurd H (by simp)
                                     · rw [if_neg c41] at H
                                       exact absurd H (by simp)
                                   · rw [if_neg c40] at H
                                     have c40b0 : ((wrap64 ((rd (rd_L1 l0 x6_3) (ji35)) - (rd (rd_L1 l0 x6_3) x7_5))) == 1) = false := beq_eq_false_iff_ne.mpr c40
                                     have c40b1 : ((wrap64 ((rd (rd_L1 l0 x6_3) (ji35)) - (rd (rd_L1 l0 x6_3) x7_5))) != 1) = true := bne_iff_ne.mpr c40
                                     by_cases c47 : (wrap64 ((rd (rd_L1 l0 x6_3) (ji35)) - (rd (rd_L1 l0 x6_3) x7_5))) = (-1)
                                     · rw [if_pos c47] at H
                                       have c47b0 : ((wrap64 ((rd (rd_L1 l0 x6_3) (ji35)) - (rd (rd_L1 l0 x6_3) x7_5))) == (-1)) = true := beq_iff_eq.mpr c47
                                       have c47b1 : ((wrap64 ((rd (rd_L1 l0 x6_3) (ji35)) - (rd (rd_L1 l0 x6_3) x7_5))) != (-1)) = false := bne_eq_false_iff_eq.mpr c47
                                       clear c47
                                       by_cases c48 : (ji35) < (l0.length : Int)
                                       · rw [if_pos c48] at H
                                         have c48b0 : decide ((ji35) < (l0.length : Int)) = true := decide_eq_true c48
                                         clear c48
                                         by_cases c49 : x6_3 < ((rd_L1 l0 (ji35)).length : Int)
                                         · rw [if_pos c49] at H
                                           have c49b0 : decide (x6_3 < ((rd_L1 l0 (ji35)).length : Int)) = true := decide_eq_true c49
                                           clear c49
                                           by_cases c50 : x7_5 < (l0.length : Int)
                                           · rw [if_pos c50] at H
                                             have c50b0 : decide (x7_5 < (l0.length : Int)) = true := decide_eq_true c50
                                             clear c50
                                             by_cases c51 : x6_3 < ((rd_L1 l0 x7_5).length : Int)
                                             · rw [if_pos c51] at H
                                               have c51b0 : decide (x6_3 < ((rd_L1 l0 x7_5).length : Int)) = true := decide_eq_true c51
                                               clear c51
                                               by_cases c52 : (wrap64 ((rd (rd_L1 l0 (ji35)) x6_3) - (rd (rd_L1 l0 x7_5) x6_3))) = 1
                                               · rw [if_pos c52] at H
                                                 have c52b0 : ((wrap64 ((rd (rd_L1 l0 (ji35)) x6_3) - (rd (rd_L1 l0 x7_5) x6_3))) == 1) = true := beq_iff_eq.mpr c52
                                                 have c52b1 : ((wrap64 ((rd (rd_L1 l0 (ji35)) x6_3) - (rd (rd_L1 l0 x7_5) x6_3))) != 1) = false := bne_eq_false_iff_eq.mpr c52
                                                 clear c52
                                                 have H' := Aside0.mk H
                                                 clear H
                                                 obtain ⟨ad449, A449_0, c449_0, e449, hx449_0, HC449_0, HR449_0, p449, q449⟩ := al_ HR0.out x6_3
                                                 cases e449
                                                 obtain ⟨ad450, e450, hx450_0, p450, q450⟩ := ai_ HR449_0.out (ji35)
                                                 cases e450
                                                 obtain ⟨ad451, A451_0, c451_0, e451, hx451_0, HC451_0, HR451_0, p451, q451⟩ := al_ HR0.out x6_3
                                                 obtain rfl : ad449 = ad451 := (by injection e451)
                                                 have ea_ := Option.some.inj (hx449_0.symm.trans hx451_0)
                                                 injection ea_ with ea_ en_ ec_
                                                 subst ea_
                                                 subst ec_
                                                 clear en_
                                                 obtain ⟨ad452, e452, hx452_0, p452, q452⟩ := ai_ HR451_0.out x7_5
                                                 cases e452
                                                 obtain ⟨ad461, A461_0, c461_0, e461, hx461_0, HC461_0, HR461_0, p461, q461⟩ := al_ HR0.out x6_3
                                                 obtain rfl : ad449 = ad461 := (by injection e461)
                                                 have ea_ := Option.some.inj (hx449_0.symm.trans hx461_0)
                                                 injection ea_ with ea_ en_ ec_
                                                 subst ea_
                                                 subst ec_
                                                 clear en_
                                                 obtain ⟨ad462, e462, hx462_0, p462, q462⟩ := ai_ HR461_0.out (ji35)
                                                 cases e462
                                                 obtain ⟨ad463, A463_0, c463_0, e463, hx463_0, HC463_0, HR463_0, p463, q463⟩ := al_ HR0.out x6_3
                                                 obtain rfl : ad449 = ad463 := (by injection e463)
                                                 have ea_ := Option.some.inj (hx449_0.symm.trans hx463_0)
                                                 injection ea_ with ea_ en_ ec_
                                                 subst ea_
                                                 subst ec_
                                                 clear en_
                                                 obtain ⟨ad464, e464, hx464_0, p464, q464⟩ := ai_ HR463_0.out x7_5
                                                 cases e464
                                                 obtain ⟨ad465, A465_0, c465_0, e465, hx465_0, HC465_0, HR465_0, p465, q465⟩ := al_ HR0.out (ji35)
                                                 obtain rfl : ad449 = ad465 := (by injection e465)
                                                 obtain ⟨ad466, e466, hx466_0, p466, q466⟩ := ai_ HR465_0.out x6_3
                                                 cases e466
                                                 obtain ⟨ad467, A467_0, c467_0, e467, hx467_0, HC467_0, HR467_0, p467, q467⟩ := al_ HR0.out x7_5
                                                 obtain rfl : ad449 = ad467 := (by injection e467)
                                                 obtain ⟨ad468, e468, hx468_0, p468, q468⟩ := ai_ HR467_0.out x6_3
                                                 cases e468
                                                 go_wp2
                                                 repeat (go_quiet (fail); try go_wp2)
                                                 go_roundg k5
                                                 case measure => have := HJ1.out; have := HK2.out; have := HK3.out; have := HJ16.out; have := HK5.out; omega
                                                 case rel => exact ⟨(ji35), (by first | rfl | (simp; done) | (simp only [← hji35] <;> (first | rfl | simp)) | (simp [*]; done)), H', ⟨by have := HJ1.out; have := HK2.out; have := HK3.out; have := HJ16.out; have := HK5.out; omega⟩, dr_⟩
                                               · rw [if_neg c52] at H
                                                 have c52b0 : ((wrap64 ((rd (rd_L1 l0 (ji35)) x6_3) - (rd (rd_L1 l0 x7_5) x6_3))) == 1) = false := beq_eq_false_iff_ne.mpr c52
                                                 have c52b1 : ((wrap64 ((rd (rd_L1 l0 (ji35)) x6_3) - (rd (rd_L1 l0 x7_5) x6_3))) != 1) = true := bne_iff_ne.mpr c52
                                                 by_cases c53 : (wrap64 ((rd (rd_L1 l0 (ji35)) x6_3) - (rd (rd_L1 l0 x7_5) x6_3))) = (-1)
                                                 · rw [if_pos c53] at H
                                                   have c53b0 : ((wrap64 ((rd (rd_L1 l0 (ji35)) x6_3) - (rd (rd_L1 l0 x7_5) x6_3))) == (-1)) = true := beq_iff_eq.mpr c53
                                                   have c53b1 : ((wrap64 ((rd (rd_L1 l0 (ji35)) x6_3) - (rd (rd_L1 l0 x7_5) x6_3))) != (-1)) = false := bne_eq_false_iff_eq.mpr c53
                                                   clear c53
                                                   have H' := Aside0.mk H
                                                   clear H
                                                   obtain ⟨ad449, A449_0, c449_0, e449, hx449_0, HC449_0, HR449_0, p449, q449⟩ := al_ HR0.out x6_3
                                                   cases e449
                                                   obtain ⟨ad450, e450, hx450_0, p450, q450⟩ := ai_ HR449_0.out (ji35)
                                                   cases e450
                                                   obtain ⟨ad451, A451_0, c451_0, e451, hx451_0, HC451_0, HR451_0, p451, q451⟩ := al_ HR0.out x6_3
                                                   obtain rfl : ad449 = ad451 := (by injection e451)
                                                   have ea_ := Option.some.inj (hx449_0.symm.trans hx451_0)
                                                   injection ea_ with ea_ en_ ec_
                                                   subst ea_
                                                   subst ec_
                                                   clear en_
                                                   obtain ⟨ad452, e452, hx452_0, p452, q452⟩ := ai_ HR451_0.out x7_5
                                                   cases e452
                                                   obtain ⟨ad461, A461_0, c461_0, e461, hx461_0, HC461_0, HR461_0, p461, q461⟩ := al_ HR0.out x6_3
                                                   obtain rfl : ad449 = ad461 := (by injection e461)
                                                   have ea_ := Option.some.inj (hx449_0.symm.trans hx461_0)
                                                   injection ea_ with ea_ en_ ec_
                                                   subst ea_
                                                   subst ec_
                                                   clear en_
                                                   obtain ⟨ad462, e462, hx462_0, p462, q462⟩ := ai_ HR461_0.out (ji35)
                                                   cases e462
                                                   obtain ⟨ad463, A463_0, c463_0, e463, hx463_0, HC463_0, HR463_0, p463, q463⟩ := al_ HR0.out x6_3
                                                   obtain rfl : ad449 = ad463 := (by injection e463)
                                                   have ea_ := Option.some.inj (hx449_0.symm.trans hx463_0)
                                                   injection ea_ with ea_ en_ ec_
                                                   subst ea_
                                                   subst ec_
                                                   clear en_
                                                   obtain ⟨ad464, e464, hx464_0, p464, q464⟩ := ai_ HR463_0.out x7_5
                                                   cases e464
                                                   obtain ⟨ad465, A465_0, c465_0, e465, hx465_0, HC465_0, HR465_0, p465, q465⟩ := al_ HR0.out (ji35)
                                                   obtain rfl : ad449 = ad465 := (by injection e465)
                                                   obtain ⟨ad466, e466, hx466_0, p466, q466⟩ := ai_ HR465_0.out x6_3
                                                   cases e466
                                                   obtain ⟨ad467, A467_0, c467_0, e467, hx467_0, HC467_0, HR467_0, p467, q467⟩ := al_ HR0.out x7_5
                                                   obtain rfl : ad449 = ad467 := (by injection e467)
                                                   obtain ⟨ad468, e468, hx468_0, p468, q468⟩ := ai_ HR467_0.out x6_3
                                                   cases e468
                                                   obtain ⟨ad469, A469_0, c469_0, e469, hx469_0, HC469_0, HR469_0, p469, q469⟩ := al_ HR0.out (ji35)
                                                   obtain rfl : ad449 = ad469 := (by injection e469)
                                                   have ea_ := Option.some.inj (hx465_0.symm.trans hx469_0)
                                                   injection ea_ with ea_ en_ ec_
                                                   subst ea_
                                                   subst ec_
                                                   clear en_
                                                   obtain ⟨ad470, e470, hx470_0, p470, q470⟩ := ai_ HR469_0.out x6_3
                                                   cases e470
                                                   obtain ⟨ad471, A471_0, c471_0, e471, hx471_0, HC471_0, HR471_0, p471, q471⟩ := al_ HR0.out x7_5
                                                   obtain rfl : ad449 = ad471 := (by injection e471)
                                                   have ea_ := Option.some.inj (hx467_0.symm.trans hx471_0)
                                                   injection ea_ with ea_ en_ ec_
                                                   subst ea_
                                                   subst ec_
                                                   clear en_
                                                   obtain ⟨ad472, e472, hx472_0, p472, q472⟩ := ai_ HR471_0.out x6_3
                                                   cases e472
                                                   go_wp2
                                                   repeat (go_quiet (fail); try go_wp2)
                                                   go_roundg k5
                                                   case measure => have := HJ1.out; have := HK2.out; have := HK3.out; have := HJ16.out; have := HK5.out; omega
                                                   case rel => exact ⟨(ji35), (by first | rfl | (simp; done) | (simp only [← hji35] <;> (first | rfl | simp)) | (simp [*]; done)), H', ⟨by have := HJ1.out; have := HK2.out; have := HK3.out; have := HJ16.out; have := HK5.out; omega⟩, dr_⟩
                                                 · rw [if_neg c53] at H
                                                   have c53b0 : ((wrap64 ((rd (rd_L1 l0 (ji35)) x6_3) - (rd (rd_L1 l0 x7_5) x6_3))) == (-1)) = false := beq_eq_false_iff_ne.mpr c53
                                                   have c53b1 : ((wrap64 ((rd (rd_L1 l0 (ji35)) x6_3) - (rd (rd_L1 l0 x7_5) x6_3))) != (-1)) = true := bne_iff_ne.mpr c53
                                                   obtain rfl := Option.some.inj H
                                                   obtain ⟨ad449, A449_0, c449_0, e449, hx449_0, HC449_0, HR449_0, p449, q449⟩ := al_ HR0.out x6_3
                                                   cases e449
                                                   obtain ⟨ad450, e450, hx450_0, p450, q450⟩ := ai_ HR449_0.out (ji35)
                                                   cases e450
                                                   obtain ⟨ad451, A451_0, c451_0, e451, hx451_0, HC451_0, HR451_0, p451, q451⟩ := al_ HR0.out x6_3
                                                   obtain rfl : ad449 = ad451 := (by injection e451)
                                                   have ea_ := Option.some.inj (hx449_0.symm.trans hx451_0)
                                                   injection ea_ with ea_ en_ ec_
                                                   subst ea_
                                                   subst ec_
                                                   clear en_
                                                   obtain ⟨ad452, e452, hx452_0, p452, q452⟩ := ai_ HR451_0.out x7_5
                                                   cases e452
                                                   obtain ⟨ad461, A461_0, c461_0, e461, hx461_0, HC461_0, HR461_0, p461, q461⟩ := al_ HR0.out x6_3
                                                   obtain rfl : ad449 = ad461 := (by injection e461)
                                                   have ea_ := Option.some.inj (hx449_0.symm.trans hx461_0)
                                                   injection ea_ with ea_ en_ ec_
                                                   subst ea_
                                                   subst ec_
                                                   clear en_
                                                   obtain ⟨ad462, e462, hx462_0, p462, q462⟩ := ai_ HR461_0.out (ji35)
                                                   cases e462
                                                   obtain ⟨ad463, A463_0, c463_0, e463, hx463_0, HC463_0, HR463_0, p463, q463⟩ := al_ HR0.out x6_3
                                                   obtain rfl : ad449 = ad463 := (by injection e463)
                                                   have ea_ := Option.some.inj (hx449_0.symm.trans hx463_0)
                                                   injection ea_ with ea_ en_ ec_
                                                   subst ea_
                                                   subst ec_
                                                   clear en_
                                                   obtain ⟨ad464, e464, hx464_0, p464, q464⟩ := ai_ HR463_0.out x7_5
                                                   cases e464
                                                   obtain ⟨ad465, A465_0, c465_0, e465, hx465_0, HC465_0, HR465_0, p465, q465⟩ := al_ HR0.out (ji35)
                                                   obtain rfl : ad449 = ad465 := (by injection e465)
                                                   obtain ⟨ad466, e466, hx466_0, p466, q466⟩ := ai_ HR465_0.out x6_3
                                                   cases e466
                                                   obtain ⟨ad467, A467_0, c467_0, e467, hx467_0, HC467_0, HR467_0, p467, q467⟩ := al_ HR0.out x7_5
                                                   obtain rfl : ad449 = ad467 := (by injection e467)
                                                   obtain ⟨ad468, e468, hx468_0, p468, q468⟩ := ai_ HR467_0.out x6_3
                                                   cases e468
                                                   obtain ⟨ad469, A469_0, c469_0, e469, hx469_0, HC469_0, HR469_0, p469, q469⟩ := al_ HR0.out (ji35)
                                                   obtain rfl : ad449 = ad469 := (by injection e469)
                                                   have ea_ := Option.some.inj (hx465_0.symm.trans hx469_0)
                                                   injection ea_ with ea_ en_ ec_
                                                   subst ea_
                                                   subst ec_
                                                   clear en_
                                                   obtain ⟨ad470, e470, hx470_0, p470, q470⟩ := ai_ HR469_0.out x6_3
                                                   cases e470
                                                   obtain ⟨ad471, A471_0, c471_0, e471, hx471_0, HC471_0, HR471_0, p471, q471⟩ := al_ HR0.out x7_5
                                                   obtain rfl : ad449 = ad471 := (by injection e471)
                                                   have ea_ := Option.some.inj (hx467_0.symm.trans hx471_0)
                                                   injection ea_ with ea_ en_ ec_
                                                   subst ea_
                                                   subst ec_
                                                   clear en_
                                                   obtain ⟨ad472, e472, hx472_0, p472, q472⟩ := ai_ HR471_0.out x6_3
                                                   cases e472
                                                   go_wp2
                                                   repeat (go_quiet (fail); try go_wp2)
                                                   go_ret
                                                   exact ⟨by first | rfl | (simp; done) | (simp only [← hji35] <;> (first | rfl | simp)) | (simp [*]; done), dr_⟩
                                             · rw [if_neg c51] at H
                                               exact absurd H (by simp)
                                           · rw [if_neg c50] at H
                                             exact absurd H (by simp)
                                         · rw [if_neg c49] at H
                                           exact absurd H (by simp)
                                       · rw [if_neg c48] at H
                                         exact absurd H (by simp)
                                     · rw [if_neg c47] at H
                                       have c47b0 : ((wrap64 ((rd (rd_L1 l0 x6_3) (ji35)) - (rd (rd_L1 l0 x6_3) x7_5))) == (-1)) = false := beq_eq_false_iff_ne.mpr c47
                                       have c47b1 : ((wrap64 ((rd (rd_L1 l0 x6_3) (ji35)) - (rd (rd_L1 l0 x6_3) x7_5))) != (-1)) = true := bne_iff_ne.mpr c47
                                       obtain rfl := Option.some.inj H
                                       obtain ⟨ad449, A449_0, c449_0, e449, hx449_0, HC449_0, HR449_0, p449, q449⟩ := al_ HR0.out x6_3
                                       cases e449
                                       obtain ⟨ad450, e450, hx450_0, p450, q450⟩ := ai_ HR449_0.out (ji35)
                                       cases e450
                                       obtain ⟨ad451, A451_0, c451_0, e451, hx451_0, HC451_0, HR451_0, p451, q451⟩ := al_ HR0.out x6_3
                                       obtain rfl : ad449 = ad451 := (by injection e451)
                                       have ea_ := Option.some.inj (hx449_0.symm.trans hx451_0)
                                       injection ea_ with ea_ en_ ec_
                                       subst ea_
                                       subst ec_
                                       clear en_
                                       obtain ⟨ad452, e452, hx452_0, p452, q452⟩ := ai_ HR451_0.out x7_5
                                       cases e452
                                       obtain ⟨ad461, A461_0, c461_0, e461, hx461_0, HC461_0, HR461_0, p461, q461⟩ := al_ HR0.out x6_3
                                       obtain rfl : ad449 = ad461 := (by injection e461)
                                       have ea_ := Option.some.inj (hx449_0.symm.trans hx461_0)
                                       injection ea_ with ea_ en_ ec_
                                       subst ea_
                                       subst ec_
                                       clear en_
                                       obtain ⟨ad462, e462, hx462_0, p462, q462⟩ := ai_ HR461_0.out (ji35)
                                       cases e462
                                       obtain ⟨ad463, A463_0, c463_0, e463, hx463_0, HC463_0, HR463_0, p463, q463⟩ := al_ HR0.out x6_3
                                       obtain rfl : ad449 = ad463 := (by injection e463)
                                       have ea_ := Option.some.inj (hx449_0.symm.trans hx463_0)
                                       injection ea_ with ea_ en_ ec_
                                       subst ea_
                                       subst ec_
                                       clear en_
                                       obtain ⟨ad464, e464, hx464_0, p464, q464⟩ := ai_ HR463_0.out x7_5
                                       cases e464
                                       go_wp2
                                       repeat (go_quiet (fail); try go_wp2)
                                       go_ret
                                       exact ⟨by first | rfl | (simp; done) | (simp only [← hji35] <;> (first | rfl | simp)) | (simp [*]; done), dr_⟩
                                 · rw [if_neg c39] at H
                                   exact absurd H (by simp)
                               · rw [if_neg c38] at H
                                 exact absurd H (by simp)
                             · rw [if_neg c37] at H
                               exact absurd H (by simp)
                           · rw [if_neg c36] at H
                             exact absurd H (by simp)
                         · rw [if_neg c34] at H
                           exact absurd H (by simp)
                       · rw [if_neg c33] at H
                         exact absurd H (by simp)
                     · rw [if_neg c32] at H
                       have c32b0 : decide (x7_5 < (wrap64 ((l0.length : Int) - 1))) = false := decide_eq_false c32
                       clear c32
                       have H' := Aside0.mk H
                       clear H
                       go_wp2
                       repeat (go_quiet (fail); try go_wp2)
                       go_roundg k5
                       case measure => have := HJ1.out; have := HK2.out; have := HK3.out; have := HJ16.out; have := HK5.out; omega
                       case rel => exact ⟨(wrap64 (x6_3 + 1)), rf_, H', ⟨by have := HJ1.out; have := HK2.out; have := HK3.out; have := HJ16.out; have := HK5.out; omega⟩, dr_⟩
            · rw [if_neg c16] at H
              have c16b0 : decide (x6_3 ≤ (wrap64 ((l0.length : Int) - 1))) = false := decide_eq_false c16
              clear c16
              obtain rfl := Option.some.inj H
              go_wp2
              repeat (go_quiet (fail); try go_wp2)
              go_ret
              exact ⟨rf_, dr_⟩

end Go.Proofs.Ytdinepghommchaa.V
