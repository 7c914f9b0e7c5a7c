/- The walks and the pure laws under the claims of VeilsAll, VeilsPairings, VeilsSummed, part: Vf19. -/
import Derived.Test.YtdinepghommchaaCb1
-- Written by a program of this session over the kit's printer: wip/gp.py.
namespace Go.Proofs.Ytdinepghommchaa.V
open Go.RowKit Go.Proofs.YtdinepghommchaaW.PrintWords Go.Proofs.YtdinepghommchaaW.PrintLast Go.Proofs.YtdinepghommchaaW.PrintMore
attribute [local go_sem] max2_int min2_int max_two min_two max_three min_three max_four min_four   -- for this text's walks alone
set_option linter.unusedVariables false
set_option linter.unusedSimpArgs false

/-! ### clocheref09_IsVeil: function 19 -/
mutual
def clocheref09_IsVeil.j0 : Nat → List (List Int) → Int → Bool → Option (Bool)
 | 0, _, _, _ => none
 | k + 1, x0, x3, x17 => if x17 = true then (some false) else (clocheref09_IsVeil.l0 k x0 x3 0)
def clocheref09_IsVeil.l0 : Nat → List (List Int) → Int → Int → Option (Bool)
 | 0, _, _, _ => none
 | k + 1, x0, x3, x4 => if x4 < x3 then (if 0 ≤ x4 then (if x4 < (x0.length : Int) then (if ((rd_L1 x0 x4).length : Int) = x3 then (clocheref09_IsVeil.l1 k x0 x3 x4 0) else (some false)) else (none)) else (none)) else (clocheref09_IsVeil.l2 k x0 x3 0)
def clocheref09_IsVeil.l1 : Nat → List (List Int) → Int → Int → Int → Option (Bool)
 | 0, _, _, _, _ => none
 | k + 1, x0, x3, x4, x5 => if x5 < x3 then (if 0 ≤ x4 then (if x4 < (x0.length : Int) then (if 0 ≤ x5 then (if x5 < ((rd_L1 x0 x4).length : Int) then (if (rd (rd_L1 x0 x4) x5) < (-1) then (some false) else (if (rd (rd_L1 x0 x4) x5) > 1 then (some false) else (clocheref09_IsVeil.l1 k x0 x3 x4 (wrap64 (x5 + 1))))) else (none)) else (none)) else (none)) else (none)) else (clocheref09_IsVeil.l0 k x0 x3 (wrap64 (x4 + 1)))
def clocheref09_IsVeil.l2 : Nat → List (List Int) → Int → Int → Option (Bool)
 | 0, _, _, _ => none
 | k + 1, x0, x3, x6 => if x6 < x3 then (clocheref09_IsVeil.l3 k x0 x3 x6 0 0 0) else (some true)
def clocheref09_IsVeil.l3 : Nat → List (List Int) → Int → Int → Int → Int → Int → Option (Bool)
 | 0, _, _, _, _, _, _ => none
 | k + 1, x0, x3, x6, x7, x8, x9 => if x9 < x3 then (if 0 ≤ x6 then (if x6 < (x0.length : Int) then (if 0 ≤ x9 then (if x9 < ((rd_L1 x0 x6).length : Int) then (if x9 < (x0.length : Int) then (if x6 < ((rd_L1 x0 x9).length : Int) then (if (wrap64 (x7 + (rd (rd_L1 x0 x6) x9))) < 0 then (some false) else (if (wrap64 (x7 + (rd (rd_L1 x0 x6) x9))) > 1 then (some false) else (if (wrap64 (x8 + (rd (rd_L1 x0 x9) x6))) < 0 then (some false) else (if (wrap64 (x8 + (rd (rd_L1 x0 x9) x6))) > 1 then (some false) else (clocheref09_IsVeil.l3 k x0 x3 x6 (wrap64 (x7 + (rd (rd_L1 x0 x6) x9))) (wrap64 (x8 + (rd (rd_L1 x0 x9) x6))) (wrap64 (x9 + 1))))))) else (none)) else (none)) else (none)) else (none)) else (none)) else (none)) else (if x7 = 1 then (if x8 = 1 then (clocheref09_IsVeil.l2 k x0 x3 (wrap64 (x6 + 1))) else (some false)) else (some false))
end
def clocheref09_IsVeil.f (k : Nat) (l0 : List (List Int)) : Option (Bool) := if (l0.length : Int) < 1 then (clocheref09_IsVeil.j0 k l0 (l0.length : Int) true) else (clocheref09_IsVeil.j0 k l0 (l0.length : Int) (decide ((l0.length : Int) > 5)))
theorem clocheref09_IsVeil.mono_l : ∀ k, (∀ y0 y1 y2, LeO (clocheref09_IsVeil.j0 k y0 y1 y2) (clocheref09_IsVeil.j0 (k + 1) y0 y1 y2)) ∧ (∀ y0 y1 y2, LeO (clocheref09_IsVeil.l0 k y0 y1 y2) (clocheref09_IsVeil.l0 (k + 1) y0 y1 y2)) ∧ (∀ y0 y1 y2 y3, LeO (clocheref09_IsVeil.l1 k y0 y1 y2 y3) (clocheref09_IsVeil.l1 (k + 1) y0 y1 y2 y3)) ∧ (∀ y0 y1 y2, LeO (clocheref09_IsVeil.l2 k y0 y1 y2) (clocheref09_IsVeil.l2 (k + 1) y0 y1 y2)) ∧ (∀ y0 y1 y2 y3 y4 y5, LeO (clocheref09_IsVeil.l3 k y0 y1 y2 y3 y4 y5) (clocheref09_IsVeil.l3 (k + 1) y0 y1 y2 y3 y4 y5))
 | 0 => ⟨fun _ _ _ r h => by simp [clocheref09_IsVeil.j0] at h, fun _ _ _ r h => by simp [clocheref09_IsVeil.l0] at h, fun _ _ _ _ r h => by simp [clocheref09_IsVeil.l1] at h, fun _ _ _ r h => by simp [clocheref09_IsVeil.l2] at h, fun _ _ _ _ _ _ r h => by simp [clocheref09_IsVeil.l3] at h⟩
 | k + 1 => by
  obtain ⟨ih0, ih1, ih2, ih3, ih4⟩ := clocheref09_IsVeil.mono_l k
  refine ⟨?_, ?_, ?_, ?_, ?_⟩
  · intro y0 y1 y2
    unfold clocheref09_IsVeil.j0
    repeat' first
    | (with_reducible exact ih0 _ _ _)
    | (with_reducible exact ih1 _ _ _)
    | (with_reducible exact ih2 _ _ _ _)
    | (with_reducible exact ih3 _ _ _)
    | (with_reducible exact ih4 _ _ _ _ _ _)
    | (with_reducible exact LeO.refl _)
    | (with_reducible exact LeO.none _)
    | (with_reducible refine LeO.ite ?_ ?_)
    | (with_reducible refine LeO.bind ?_ (fun _ => ?_))
    | exact ih0 _ _ _
    | exact ih1 _ _ _
    | exact ih2 _ _ _ _
    | exact ih3 _ _ _
    | exact ih4 _ _ _ _ _ _
    | exact LeO.none _
    | refine LeO.ite ?_ ?_
    | refine LeO.bind ?_ (fun _ => ?_)
  · intro y0 y1 y2
    unfold clocheref09_IsVeil.l0
    repeat' first
    | (with_reducible exact ih0 _ _ _)
    | (with_reducible exact ih1 _ _ _)
    | (with_reducible exact ih2 _ _ _ _)
    | (with_reducible exact ih3 _ _ _)
    | (with_reducible exact ih4 _ _ _ _ _ _)
    | (with_reducible exact LeO.refl _)
    | (with_reducible exact LeO.none _)
    | (with_reducible refine LeO.ite ?_ ?_)
    | (with_reducible refine LeO.bind ?_ (fun _ => ?_))
    | exact ih0 _ _ _
    | exact ih1 _ _ _
    | exact ih2 _ _ _ _
    | exact ih3 _ _ _
    | exact ih4 _ _ _ _ _ _
    | exact LeO.none _
    | refine LeO.ite ?_ ?_
    | refine LeO.bind ?_ (fun _ => ?_)
  · intro y0 y1 y2 y3
    unfold clocheref09_IsVeil.l1
    repeat' first
    | (with_reducible exact ih0 _ _ _)
    | (with_reducible exact ih1 _ _ _)
    | (with_reducible exact ih2 _ _ _ _)
    | (with_reducible exact ih3 _ _ _)
    | (with_reducible exact ih4 _ _ _ _ _ _)
    | (with_reducible exact LeO.refl _)
    | (with_reducible exact LeO.none _)
    | (with_reducible refine LeO.ite ?_ ?_)
    | (with_reducible refine LeO.bind ?_ (fun _ => ?_))
    | exact ih0 _ _ _
    | exact ih1 _ _ _
    | exact ih2 _ _ _ _
    | exact ih3 _ _ _
    | exact ih4 _ _ _ _ _ _
    | exact LeO.none _
    | refine LeO.ite ?_ ?_
    | refine LeO.bind ?_ (fun _ => ?_)
  · intro y0 y1 y2
    unfold clocheref09_IsVeil.l2
    repeat' first
    | (with_reducible exact ih0 _ _ _)
    | (with_reducible exact ih1 _ _ _)
    | (with_reducible exact ih2 _ _ _ _)
    | (with_reducible exact ih3 _ _ _)
    | (with_reducible exact ih4 _ _ _ _ _ _)
    | (with_reducible exact LeO.refl _)
    | (with_reducible exact LeO.none _)
    | (with_reducible refine LeO.ite ?_ ?_)
    | (with_reducible refine LeO.bind ?_ (fun _ => ?_))
    | exact ih0 _ _ _
    | exact ih1 _ _ _
    | exact ih2 _ _ _ _
    | exact ih3 _ _ _
    | exact ih4 _ _ _ _ _ _
    | exact LeO.none _
    | refine LeO.ite ?_ ?_
    | refine LeO.bind ?_ (fun _ => ?_)
  · intro y0 y1 y2 y3 y4 y5
    unfold clocheref09_IsVeil.l3
    repeat' first
    | (with_reducible exact ih0 _ _ _)
    | (with_reducible exact ih1 _ _ _)
    | (with_reducible exact ih2 _ _ _ _)
    | (with_reducible exact ih3 _ _ _)
    | (with_reducible exact ih4 _ _ _ _ _ _)
    | (with_reducible exact LeO.refl _)
    | (with_reducible exact LeO.none _)
    | (with_reducible refine LeO.ite ?_ ?_)
    | (with_reducible refine LeO.bind ?_ (fun _ => ?_))
    | exact ih0 _ _ _
    | exact ih1 _ _ _
    | exact ih2 _ _ _ _
    | exact ih3 _ _ _
    | exact ih4 _ _ _ _ _ _
    | exact LeO.none _
    | refine LeO.ite ?_ ?_
    | refine LeO.bind ?_ (fun _ => ?_)
theorem clocheref09_IsVeil.mono : ∀ a0 k, LeO (clocheref09_IsVeil.f k a0) (clocheref09_IsVeil.f (k + 1) a0) := by
 intro a0 k
 obtain ⟨ih0, ih1, ih2, ih3, ih4⟩ := clocheref09_IsVeil.mono_l k
 unfold clocheref09_IsVeil.f
 repeat' first
  | (with_reducible exact ih0 _ _ _)
  | (with_reducible exact ih1 _ _ _)
  | (with_reducible exact ih2 _ _ _ _)
  | (with_reducible exact ih3 _ _ _)
  | (with_reducible exact ih4 _ _ _ _ _ _)
  | (with_reducible exact LeO.refl _)
  | (with_reducible exact LeO.none _)
  | (with_reducible refine LeO.ite ?_ ?_)
  | (with_reducible refine LeO.bind ?_ (fun _ => ?_))
  | exact ih0 _ _ _
  | exact ih1 _ _ _
  | exact ih2 _ _ _ _
  | exact ih3 _ _ _
  | exact ih4 _ _ _ _ _ _
  | exact LeO.none _
  | refine LeO.ite ?_ ?_
  | refine LeO.bind ?_ (fun _ => ?_)
set_option maxHeartbeats 8000000 in
set_option maxRecDepth 100000 in
theorem clocheref09_IsVeil.calls (k : Nat) (A0 : Option Addr) (c0 : Nat) (l0 : List (List Int)) (r : Bool) (w : World) (hr0 : Kd.C (Kd.slice 3 (Kd.int .i64)) w A0 l0.length l0) (hc0 : l0.length ≤ c0) (h : clocheref09_IsVeil.f k l0 = some r) :
 Calls Try.prog 19 #[.slice A0 l0.length c0] w fun e w' => e = .returned (.bool r) ∧ Drawn0 w w' := by
 have HR0 := Aside0.mk hr0
 have HC0 := Aside0.mk hc0
 clear hr0 hc0
 have H : (if (l0.length : Int) < 1 then (clocheref09_IsVeil.j0 k l0 (l0.length : Int) true) else (clocheref09_IsVeil.j0 k l0 (l0.length : Int) (decide ((l0.length : Int) > 5)))) = some r := h
 clear h
 have HC2 := Aside0.mk H
 clear H
 go_enter Try.func19, Try.ntmps19
 go_upto_region 2 with (fail)
 go_cut [17] (fun v17 wc => ∃ (kq : Nat) (x17_1 : Bool), v17 = .bool x17_1 ∧ Aside0 (clocheref09_IsVeil.j0 kq l0 (l0.length : Int) x17_1 = some r) ∧ Aside0 (kq ≤ k) ∧ Drawn0 w wc)
 case first =>
  have H := HC2.out
  clear HC2
  by_cases c3 : (l0.length : Int) < 1
  · rw [if_pos c3] at H
    have c3b0 : decide ((l0.length : Int) < 1) = true := decide_eq_true c3
    have c3b1 : decide (l0.length < 1) = true := decide_eq_true (by omega)
    clear c3
    (first | rw [c3b0] | (simp only [i64_w, i32_w]; rw [c3b0]) | skip)
    have H' := Aside0.mk H
    clear H
    go_wp2
    go_meet
    case rel => exact ⟨_, (true), rf_, H', ⟨by first | omega | exact Nat.le_refl _⟩, dr_⟩
  · rw [if_neg c3] at H
    have c3b0 : decide ((l0.length : Int) < 1) = false := decide_eq_false c3
    have c3b1 : decide (l0.length < 1) = false := decide_eq_false (by omega)
    clear c3
    (first | rw [c3b0] | (simp only [i64_w, i32_w]; rw [c3b0]) | skip)
    have H' := Aside0.mk H
    clear H
    go_wp2
    go_meet
    case rel => exact ⟨_, (decide ((l0.length : Int) > 5)), rf_, H', ⟨by first | omega | exact Nat.le_refl _⟩, dr_⟩
 case rest =>
  clear HC2
  try clear c1
  try clear p2
  try clear c3
  try clear c3b0
  try clear c3b1
  obtain ⟨kq, x17_1, rfl, HA, HJ1, ⟨mc1, rfl⟩⟩ := hcut
  cases kq with
  | zero => exact absurd HA.out (by simp [clocheref09_IsVeil.j0])
  | succ kj1 =>
    have H := HA.out
    clear HA
    simp only [clocheref09_IsVeil.j0] at H
    by_cases c4 : x17_1 = true
    · subst c4
      have H1 : (some false) = some r := by rw [if_pos rfl] at H; exact H
      clear H
      have H := H1
      clear H1
      obtain rfl := Option.some.inj H
      go_wp2
      go_ret
      exact ⟨rf_, dr_⟩
    · replace c4 := Bool.eq_false_iff.mpr c4
      subst c4
      have H1 : (clocheref09_IsVeil.l0 kj1 l0 (l0.length : Int) 0) = some r := by rw [if_neg (show ¬ (false = true) by decide)] at H; exact H
      clear H
      have H := H1
      clear H1
      have H' := Aside0.mk H
      clear H
      go_wp2
      go_loopg [4] kj1 (fun kq v4 w' => ∃ (x4_2 : Int), v4 = .int .i64 x4_2 ∧ Aside0 (clocheref09_IsVeil.l0 kq l0 (l0.length : Int) x4_2 = some r) ∧ Aside0 (kq ≤ kj1) ∧ Drawn0 w w')
      case atStart => exact ⟨(0), rf_, H', ⟨Nat.le_refl _⟩, dr_⟩
      case round =>
       clear H'
       try clear c1
       try clear p2
       try clear c3
       try clear c3b0
       try clear c3b1
       try clear c4
       try clear p2
       obtain ⟨x4_2, rfl, HA, HK2, ⟨m2, rfl⟩⟩ := hrel
       cases gk with
       | zero => exact absurd HA.out (by simp [clocheref09_IsVeil.l0])
       | succ k2 =>
        have H := HA.out
        clear HA
        simp only [clocheref09_IsVeil.l0] at H
        by_cases c5 : x4_2 < (l0.length : Int)
        · rw [if_pos c5] at H
          have c5b0 : decide (x4_2 < (l0.length : Int)) = true := decide_eq_true c5
          clear c5
          by_cases c6 : 0 ≤ x4_2
          · rw [if_pos c6] at H
            have c6b0 : decide (0 ≤ x4_2) = true := decide_eq_true c6
            clear c6
            by_cases c7 : x4_2 < (l0.length : Int)
            · rw [if_pos c7] at H
              have c7b0 : decide (x4_2 < (l0.length : Int)) = true := decide_eq_true c7
              clear c7
              by_cases c8 : ((rd_L1 l0 x4_2).length : Int) = (l0.length : Int)
              · rw [if_pos c8] at H
                have c8b0 : (((rd_L1 l0 x4_2).length : Int) == (l0.length : Int)) = true := beq_iff_eq.mpr c8
                have c8b1 : (((rd_L1 l0 x4_2).length : Int) != (l0.length : Int)) = false := bne_eq_false_iff_eq.mpr c8
                have c8b2 : ((rd_L1 l0 x4_2).length == l0.length) = true := by first | simpa using c8 | (simp at c8 ⊢; omega)
                clear c8
                have H' := Aside0.mk H
                clear H
                obtain ⟨ad214, A214_0, c214_0, e214, hx214_0, HC214_0, HR214_0, p214, q214⟩ := al_ HR0.out x4_2
                cases e214
                go_wp2
                go_loopg [5] k2 (fun kq v5 w' => ∃ (x5_3 : Int), v5 = .int .i64 x5_3 ∧ Aside0 (clocheref09_IsVeil.l1 kq l0 (l0.length : Int) x4_2 x5_3 = some r) ∧ Aside0 (kq ≤ k2) ∧ Drawn0 w w')
                case atStart => exact ⟨(0), rf_, H', ⟨Nat.le_refl _⟩, dr_⟩
                case round =>
                 clear H'
                 try clear c1
                 try clear c2
                 try clear p2
                 try clear q2
                 try clear hx2
                 try clear c3
                 try clear c3b0
                 try clear c3b1
                 try clear c4
                 try clear c5
                 try clear c5b0
                 try clear c6
                 try clear c6b0
                 try clear c7
                 try clear c7b0
                 try clear c8
                 try clear c8b0
                 try clear c8b1
                 try clear c8b2
                 try clear hx214_0
                 try clear p2
                 try clear p214
                 try clear q214
                 obtain ⟨x5_3, rfl, HA, HK3, ⟨m3, rfl⟩⟩ := hrel
                 cases gk with
                 | zero => exact absurd HA.out (by simp [clocheref09_IsVeil.l1])
                 | succ k3 =>
                  have H := HA.out
                  clear HA
                  simp only [clocheref09_IsVeil.l1] at H
                  by_cases c9 : x5_3 < (l0.length : Int)
                  · rw [if_pos c9] at H
                    have c9b0 : decide (x5_3 < (l0.length : Int)) = true := decide_eq_true c9
                    clear c9
                    by_cases c10 : 0 ≤ x4_2
                    · rw [if_pos c10] at H
                      have c10b0 : decide (0 ≤ x4_2) = true := decide_eq_true c10
                      clear c10
                      by_cases c11 : x4_2 < (l0.length : Int)
                      · rw [if_pos c11] at H
                        have c11b0 : decide (x4_2 < (l0.length : Int)) = true := decide_eq_true c11
                        clear c11
                        by_cases c12 : 0 ≤ x5_3
                        · rw [if_pos c12] at H
                          have c12b0 : decide (0 ≤ x5_3) = true := decide_eq_true c12
                          clear c12
                          by_cases c13 : x5_3 < ((rd_L1 l0 x4_2).length : Int)
                          · rw [if_pos c13] at H
                            have c13b0 : decide (x5_3 < ((rd_L1 l0 x4_2).length : Int)) = true := decide_eq_true c13
                            clear c13
                            by_cases c14 : (rd (rd_L1 l0 x4_2) x5_3) < (-1)
                            · rw [if_pos c14] at H
                              have c14b0 : decide ((rd (rd_L1 l0 x4_2) x5_3) < (-1)) = true := decide_eq_true c14
                              clear c14
                              obtain rfl := Option.some.inj H
                              obtain ⟨ad215, A215_0, c215_0, e215, hx215_0, HC215_0, HR215_0, p215, q215⟩ := al_ HR0.out x4_2
                              obtain rfl : ad214 = ad215 := (by injection e215)
                              obtain ⟨ad216, e216, hx216_0, p216, q216⟩ := ai_ HR215_0.out x5_3
                              cases e216
                              go_wp2
                              go_ret
                              exact ⟨rf_, dr_⟩
                            · rw [if_neg c14] at H
                              have c14b0 : decide ((rd (rd_L1 l0 x4_2) x5_3) < (-1)) = false := decide_eq_false c14
                              clear c14
                              by_cases c15 : (rd (rd_L1 l0 x4_2) x5_3) > 1
                              · rw [if_pos c15] at H
                                have c15b0 : decide (1 < (rd (rd_L1 l0 x4_2) x5_3)) = true := decide_eq_true c15
                                clear c15
                                obtain rfl := Option.some.inj H
                                obtain ⟨ad215, A215_0, c215_0, e215, hx215_0, HC215_0, HR215_0, p215, q215⟩ := al_ HR0.out x4_2
                                obtain rfl : ad214 = ad215 := (by injection e215)
                                obtain ⟨ad216, e216, hx216_0, p216, q216⟩ := ai_ HR215_0.out x5_3
                                cases e216
                                obtain ⟨ad217, A217_0, c217_0, e217, hx217_0, HC217_0, HR217_0, p217, q217⟩ := al_ HR0.out x4_2
                                obtain rfl : ad214 = ad217 := (by injection e217)
                                have ea_ := Option.some.inj (hx215_0.symm.trans hx217_0)
                                injection ea_ with ea_ en_ ec_
                                subst ea_
                                subst ec_
                                clear en_
                                obtain ⟨ad218, e218, hx218_0, p218, q218⟩ := ai_ HR217_0.out x5_3
                                cases e218
                                go_wp2
                                go_ret
                                exact ⟨rf_, dr_⟩
                              · rw [if_neg c15] at H
                                have c15b0 : decide (1 < (rd (rd_L1 l0 x4_2) x5_3)) = false := decide_eq_false c15
                                clear c15
                                have H' := Aside0.mk H
                                clear H
                                obtain ⟨ad215, A215_0, c215_0, e215, hx215_0, HC215_0, HR215_0, p215, q215⟩ := al_ HR0.out x4_2
                                obtain rfl : ad214 = ad215 := (by injection e215)
                                obtain ⟨ad216, e216, hx216_0, p216, q216⟩ := ai_ HR215_0.out x5_3
                                cases e216
                                obtain ⟨ad217, A217_0, c217_0, e217, hx217_0, HC217_0, HR217_0, p217, q217⟩ := al_ HR0.out x4_2
                                obtain rfl : ad214 = ad217 := (by injection e217)
                                have ea_ := Option.some.inj (hx215_0.symm.trans hx217_0)
                                injection ea_ with ea_ en_ ec_
                                subst ea_
                                subst ec_
                                clear en_
                                obtain ⟨ad218, e218, hx218_0, p218, q218⟩ := ai_ HR217_0.out x5_3
                                cases e218
                                go_wp2
                                go_roundg k3
                                case measure => have := HJ1.out; have := HK2.out; have := HK3.out; omega
                                case rel => exact ⟨(wrap64 (x5_3 + 1)), rf_, H', ⟨by have := HJ1.out; have := HK2.out; have := HK3.out; omega⟩, dr_⟩
                          · rw [if_neg c13] at H
                            exact absurd H (by simp)
                        · rw [if_neg c12] at H
                          exact absurd H (by simp)
                      · rw [if_neg c11] at H
                        exact absurd H (by simp)
                    · rw [if_neg c10] at H
                      exact absurd H (by simp)
                  · rw [if_neg c9] at H
                    have c9b0 : decide (x5_3 < (l0.length : Int)) = false := decide_eq_false c9
                    clear c9
                    have H' := Aside0.mk H
                    clear H
                    go_wp2
                    go_roundg k3
                    case measure => have := HJ1.out; have := HK2.out; have := HK3.out; omega
                    case rel => exact ⟨(wrap64 (x4_2 + 1)), rf_, H', ⟨by have := HJ1.out; have := HK2.out; have := HK3.out; omega⟩, dr_⟩
              · rw [if_neg c8] at H
                have c8b0 : (((rd_L1 l0 x4_2).length : Int) == (l0.length : Int)) = false := beq_eq_false_iff_ne.mpr c8
                have c8b1 : (((rd_L1 l0 x4_2).length : Int) != (l0.length : Int)) = true := bne_iff_ne.mpr c8
                have c8b2 : ((rd_L1 l0 x4_2).length == l0.length) = false := by first | simpa using c8 | (simp at c8 ⊢; omega)
                obtain rfl := Option.some.inj H
                obtain ⟨ad214, A214_0, c214_0, e214, hx214_0, HC214_0, HR214_0, p214, q214⟩ := al_ HR0.out x4_2
                cases e214
                go_wp2
                go_ret
                exact ⟨rf_, dr_⟩
            · rw [if_neg c7] at H
              exact absurd H (by simp)
          · rw [if_neg c6] at H
            exact absurd H (by simp)
        · rw [if_neg c5] at H
          have c5b0 : decide (x4_2 < (l0.length : Int)) = false := decide_eq_false c5
          clear c5
          have H' := Aside0.mk H
          clear H
          go_wp2
          go_loopg [6] k2 (fun kq v6 w' => ∃ (x6_3 : Int), v6 = .int .i64 x6_3 ∧ Aside0 (clocheref09_IsVeil.l2 kq l0 (l0.length : Int) x6_3 = some r) ∧ Aside0 (kq ≤ k2) ∧ Drawn0 w w')
          case atStart => exact ⟨(0), rf_, H', ⟨Nat.le_refl _⟩, dr_⟩
          case round =>
           clear H'
           try clear c1
           try clear c2
           try clear p2
           try clear q2
           try clear hx2
           try clear c3
           try clear c3b0
           try clear c3b1
           try clear c4
           try clear c5
           try clear c5b0
           try clear c6
           try clear c6b0
           try clear p6
           try clear c7
           try clear c7b0
           try clear c8
           try clear c8b0
           try clear c8b1
           try clear c8b2
           try clear c9
           try clear c9b0
           try clear c10
           try clear c10b0
           try clear c11
           try clear c11b0
           try clear c12
           try clear c12b0
           try clear c13
           try clear c13b0
           try clear c14
           try clear c14b0
           try clear c15
           try clear c15b0
           try clear hx214_0
           try clear hx215_0
           try clear hx216_0
           try clear hx217_0
           try clear hx218_0
           try clear p2
           try clear p214
           try clear p215
           try clear p216
           try clear p217
           try clear p218
           try clear q2
           try clear q214
           try clear q215
           try clear q216
           try clear q217
           try clear q218
           obtain ⟨x6_3, rfl, HA, HK3, ⟨m3, rfl⟩⟩ := hrel
           cases gk with
           | zero => exact absurd HA.out (by simp [clocheref09_IsVeil.l2])
           | succ k3 =>
            have H := HA.out
            clear HA
            simp only [clocheref09_IsVeil.l2] at H
            by_cases c16 : x6_3 < (l0.length : Int)
            · rw [if_pos c16] at H
              have c16b0 : decide (x6_3 < (l0.length : Int)) = true := decide_eq_true c16
              clear c16
              have H' := Aside0.mk H
              clear H
              go_wp2
              go_loopg [7, 8, 9] k3 (fun kq v7 v8 v9 w' => ∃ (x7_4 : Int) (x8_4 : Int) (x9_4 : Int), v7 = .int .i64 x7_4 ∧ v8 = .int .i64 x8_4 ∧ v9 = .int .i64 x9_4 ∧ Aside0 (clocheref09_IsVeil.l3 kq l0 (l0.length : Int) x6_3 x7_4 x8_4 x9_4 = some r) ∧ Aside0 (kq ≤ k3) ∧ Drawn0 w w')
              case atStart => exact ⟨(0), (0), (0), rf_, rf_, rf_, H', ⟨Nat.le_refl _⟩, dr_⟩
              case round =>
               clear H'
               try clear c1
               try clear c2
               try clear p2
               try clear q2
               try clear hx2
               try clear c3
               try clear c3b0
               try clear c3b1
               try clear c4
               try clear c5
               try clear c5b0
               try clear c6
               try clear c6b0
               try clear p6
               try clear c7
               try clear c7b0
               try clear c8
               try clear c8b0
               try clear c8b1
               try clear c8b2
               try clear c9
               try clear c9b0
               try clear c10
               try clear c10b0
               try clear c11
               try clear c11b0
               try clear c12
               try clear c12b0
               try clear c13
               try clear c13b0
               try clear c14
               try clear c14b0
               try clear c15
               try clear c15b0
               try clear c16
               try clear c16b0
               try clear hx214_0
               try clear hx215_0
               try clear hx216_0
               try clear hx217_0
               try clear hx218_0
               try clear p2
               try clear p214
               try clear p215
               try clear p216
               try clear p217
               try clear p218
               try clear p6
               try clear q2
               try clear q214
               try clear q215
               try clear q216
               try clear q217
               try clear q218
               obtain ⟨x7_4, x8_4, x9_4, rfl, rfl, rfl, HA, HK4, ⟨m4, rfl⟩⟩ := hrel
               cases gk with
               | zero => exact absurd HA.out (by simp [clocheref09_IsVeil.l3])
               | succ k4 =>
                have H := HA.out
                clear HA
                simp only [clocheref09_IsVeil.l3] at H
                by_cases c17 : x9_4 < (l0.length : Int)
                · rw [if_pos c17] at H
                  have c17b0 : decide (x9_4 < (l0.length : Int)) = true := decide_eq_true c17
                  clear c17
                  by_cases c18 : 0 ≤ x6_3
                  · rw [if_pos c18] at H
                    have c18b0 : decide (0 ≤ x6_3) = true := decide_eq_true c18
                    clear c18
                    by_cases c19 : x6_3 < (l0.length : Int)
                    · rw [if_pos c19] at H
                      have c19b0 : decide (x6_3 < (l0.length : Int)) = true := decide_eq_true c19
                      clear c19
                      by_cases c20 : 0 ≤ x9_4
                      · rw [if_pos c20] at H
                        have c20b0 : decide (0 ≤ x9_4) = true := decide_eq_true c20
                        clear c20
                        by_cases c21 : x9_4 < ((rd_L1 l0 x6_3).length : Int)
                        · rw [if_pos c21] at H
                          have c21b0 : decide (x9_4 < ((rd_L1 l0 x6_3).length : Int)) = true := decide_eq_true c21
                          clear c21
                          by_cases c22 : x9_4 < (l0.length : Int)
                          · rw [if_pos c22] at H
                            have c22b0 : decide (x9_4 < (l0.length : Int)) = true := decide_eq_true c22
                            clear c22
                            by_cases c23 : x6_3 < ((rd_L1 l0 x9_4).length : Int)
                            · rw [if_pos c23] at H
                              have c23b0 : decide (x6_3 < ((rd_L1 l0 x9_4).length : Int)) = true := decide_eq_true c23
                              clear c23
                              by_cases c24 : (wrap64 (x7_4 + (rd (rd_L1 l0 x6_3) x9_4))) < 0
                              · rw [if_pos c24] at H
                                have c24b0 : decide ((wrap64 (x7_4 + (rd (rd_L1 l0 x6_3) x9_4))) < 0) = true := decide_eq_true c24
                                clear c24
                                obtain rfl := Option.some.inj H
                                obtain ⟨ad219, A219_0, c219_0, e219, hx219_0, HC219_0, HR219_0, p219, q219⟩ := al_ HR0.out x6_3
                                cases e219
                                obtain ⟨ad220, e220, hx220_0, p220, q220⟩ := ai_ HR219_0.out x9_4
                                cases e220
                                obtain ⟨ad221, A221_0, c221_0, e221, hx221_0, HC221_0, HR221_0, p221, q221⟩ := al_ HR0.out x9_4
                                obtain rfl : ad219 = ad221 := (by injection e221)
                                obtain ⟨ad222, e222, hx222_0, p222, q222⟩ := ai_ HR221_0.out x6_3
                                cases e222
                                go_wp2
                                go_ret
                                exact ⟨rf_, dr_⟩
                              · rw [if_neg c24] at H
                                have c24b0 : decide ((wrap64 (x7_4 + (rd (rd_L1 l0 x6_3) x9_4))) < 0) = false := decide_eq_false c24
                                clear c24
                                by_cases c25 : (wrap64 (x7_4 + (rd (rd_L1 l0 x6_3) x9_4))) > 1
                                · rw [if_pos c25] at H
                                  have c25b0 : decide (1 < (wrap64 (x7_4 + (rd (rd_L1 l0 x6_3) x9_4)))) = true := decide_eq_true c25
                                  clear c25
                                  obtain rfl := Option.some.inj H
                                  obtain ⟨ad219, A219_0, c219_0, e219, hx219_0, HC219_0, HR219_0, p219, q219⟩ := al_ HR0.out x6_3
                                  cases e219
                                  obtain ⟨ad220, e220, hx220_0, p220, q220⟩ := ai_ HR219_0.out x9_4
                                  cases e220
                                  obtain ⟨ad221, A221_0, c221_0, e221, hx221_0, HC221_0, HR221_0, p221, q221⟩ := al_ HR0.out x9_4
                                  obtain rfl : ad219 = ad221 := (by injection e221)
                                  obtain ⟨ad222, e222, hx222_0, p222, q222⟩ := ai_ HR221_0.out x6_3
                                  cases e222
                                  go_wp2
                                  go_ret
                                  exact ⟨rf_, dr_⟩
                                · rw [if_neg c25] at H
                                  have c25b0 : decide (1 < (wrap64 (x7_4 + (rd (rd_L1 l0 x6_3) x9_4)))) = false := decide_eq_false c25
                                  clear c25
                                  by_cases c26 : (wrap64 (x8_4 + (rd (rd_L1 l0 x9_4) x6_3))) < 0
                                  · rw [if_pos c26] at H
                                    have c26b0 : decide ((wrap64 (x8_4 + (rd (rd_L1 l0 x9_4) x6_3))) < 0) = true := decide_eq_true c26
                                    clear c26
                                    obtain rfl := Option.some.inj H
                                    obtain ⟨ad219, A219_0, c219_0, e219, hx219_0, HC219_0, HR219_0, p219, q219⟩ := al_ HR0.out x6_3
                                    cases e219
                                    obtain ⟨ad220, e220, hx220_0, p220, q220⟩ := ai_ HR219_0.out x9_4
                                    cases e220
                                    obtain ⟨ad221, A221_0, c221_0, e221, hx221_0, HC221_0, HR221_0, p221, q221⟩ := al_ HR0.out x9_4
                                    obtain rfl : ad219 = ad221 := (by injection e221)
                                    obtain ⟨ad222, e222, hx222_0, p222, q222⟩ := ai_ HR221_0.out x6_3
                                    cases e222
                                    go_wp2
                                    go_ret
                                    exact ⟨rf_, dr_⟩
                                  · rw [if_neg c26] at H
                                    have c26b0 : decide ((wrap64 (x8_4 + (rd (rd_L1 l0 x9_4) x6_3))) < 0) = false := decide_eq_false c26
                                    clear c26
                                    by_cases c27 : (wrap64 (x8_4 + (rd (rd_L1 l0 x9_4) x6_3))) > 1
                                    · rw [if_pos c27] at H
                                      have c27b0 : decide (1 < (wrap64 (x8_4 + (rd (rd_L1 l0 x9_4) x6_3)))) = true := decide_eq_true c27
                                      clear c27
                                      obtain rfl := Option.some.inj H
                                      obtain ⟨ad219, A219_0, c219_0, e219, hx219_0, HC219_0, HR219_0, p219, q219⟩ := al_ HR0.out x6_3
                                      cases e219
                                      obtain ⟨ad220, e220, hx220_0, p220, q220⟩ := ai_ HR219_0.out x9_4
                                      cases e220
                                      obtain ⟨ad221, A221_0, c221_0, e221, hx221_0, HC221_0, HR221_0, p221, q221⟩ := al_ HR0.out x9_4
                                      obtain rfl : ad219 = ad221 := (by injection e221)
                                      obtain ⟨ad222, e222, hx222_0, p222, q222⟩ := ai_ HR221_0.out x6_3
                                      cases e222
                                      go_wp2
                                      go_ret
                                      exact ⟨rf_, dr_⟩
                                    · rw [if_neg c27] at H
                                      have c27b0 : decide (1 < (wrap64 (x8_4 + (rd (rd_L1 l0 x9_4) x6_3)))) = false := decide_eq_false c27
                                      clear c27
                                      have H' := Aside0.mk H
                                      clear H
                                      obtain ⟨ad219, A219_0, c219_0, e219, hx219_0, HC219_0, HR219_0, p219, q219⟩ := al_ HR0.out x6_3
                                      cases e219
                                      obtain ⟨ad220, e220, hx220_0, p220, q220⟩ := ai_ HR219_0.out x9_4
                                      cases e220
                                      obtain ⟨ad221, A221_0, c221_0, e221, hx221_0, HC221_0, HR221_0, p221, q221⟩ := al_ HR0.out x9_4
                                      obtain rfl : ad219 = ad221 := (by injection e221)
                                      obtain ⟨ad222, e222, hx222_0, p222, q222⟩ := ai_ HR221_0.out x6_3
                                      cases e222
                                      go_wp2
                                      go_roundg k4
                                      case measure => have := HJ1.out; have := HK2.out; have := HK3.out; have := HK4.out; omega
                                      case rel => exact ⟨(wrap64 (x7_4 + (rd (rd_L1 l0 x6_3) x9_4))), (wrap64 (x8_4 + (rd (rd_L1 l0 x9_4) x6_3))), (wrap64 (x9_4 + 1)), rf_, rf_, rf_, H', ⟨by have := HJ1.out; have := HK2.out; have := HK3.out; have := HK4.out; omega⟩, dr_⟩
                            · rw [if_neg c23] at H
                              exact absurd H (by simp)
                          · rw [if_neg c22] at H
                            exact absurd H (by simp)
                        · rw [if_neg c21] at H
                          exact absurd H (by simp)
                      · rw [if_neg c20] at H
                        exact absurd H (by simp)
                    · rw [if_neg c19] at H
                      exact absurd H (by simp)
                  · rw [if_neg c18] at H
                    exact absurd H (by simp)
                · rw [if_neg c17] at H
                  have c17b0 : decide (x9_4 < (l0.length : Int)) = false := decide_eq_false c17
                  clear c17
                  by_cases c28 : x7_4 = 1
                  · rw [if_pos c28] at H
                    have c28b0 : (x7_4 == 1) = true := beq_iff_eq.mpr c28
                    have c28b1 : (x7_4 != 1) = false := bne_eq_false_iff_eq.mpr c28
                    clear c28
                    by_cases c29 : x8_4 = 1
                    · rw [if_pos c29] at H
                      have c29b0 : (x8_4 == 1) = true := beq_iff_eq.mpr c29
                      have c29b1 : (x8_4 != 1) = false := bne_eq_false_iff_eq.mpr c29
                      clear c29
                      have H' := Aside0.mk H
                      clear H
                      go_wp2
                      go_roundg k4
                      case measure => have := HJ1.out; have := HK2.out; have := HK3.out; have := HK4.out; omega
                      case rel => exact ⟨(wrap64 (x6_3 + 1)), rf_, H', ⟨by have := HJ1.out; have := HK2.out; have := HK3.out; have := HK4.out; omega⟩, dr_⟩
                    · rw [if_neg c29] at H
                      have c29b0 : (x8_4 == 1) = false := beq_eq_false_iff_ne.mpr c29
                      have c29b1 : (x8_4 != 1) = true := bne_iff_ne.mpr c29
                      obtain rfl := Option.some.inj H
                      go_wp2
                      go_ret
                      exact ⟨rf_, dr_⟩
                  · rw [if_neg c28] at H
                    have c28b0 : (x7_4 == 1) = false := beq_eq_false_iff_ne.mpr c28
                    have c28b1 : (x7_4 != 1) = true := bne_iff_ne.mpr c28
                    obtain rfl := Option.some.inj H
                    go_wp2
                    go_ret
                    exact ⟨rf_, dr_⟩
            · rw [if_neg c16] at H
              have c16b0 : decide (x6_3 < (l0.length : Int)) = false := decide_eq_false c16
              clear c16
              obtain rfl := Option.some.inj H
              go_wp2
              go_ret
              exact ⟨rf_, dr_⟩

end Go.Proofs.Ytdinepghommchaa.V
