/- The walks, their words and the pure laws under the claim of VeilsTriangles, part: Vf14, Gs. -/
import Derived.Test.YtdinepghommchaaCVeilsTriangles1
import Derived.Test.YtdinepghommchaaCVeilsTriangles3
-- Written by a program of this session over the kit's printer: wip/gp.py.
namespace Go.Proofs.Ytdinepghommchaa.V
open Go.RowKit Go.Proofs.YtdinepghommchaaW.PrintWords Go.Proofs.YtdinepghommchaaW.PrintLast Go.Proofs.YtdinepghommchaaW.PrintMore
attribute [local go_sem] max2_int min2_int max_two min_two max_three min_three max_four min_four   -- for this text's walks alone
set_option linter.unusedVariables false
set_option linter.unusedSimpArgs false

/-! ### clocheref09_Same: function 14 -/
mutual
def clocheref09_Same.l0 : Nat → List (List Int) → List (List Int) → Int → Option (Bool)
 | 0, _, _, _ => none
 | k + 1, x0, x1, x5 => if x5 < (x0.length : Int) then (if 0 ≤ x5 then (if x5 < (x1.length : Int) then (if ((rd_L1 x0 x5).length : Int) = ((rd_L1 x1 x5).length : Int) then (clocheref09_Same.l1 k x0 x1 x5 0) else (some false)) else (none)) else (none)) else (some true)
def clocheref09_Same.l1 : Nat → List (List Int) → List (List Int) → Int → Int → Option (Bool)
 | 0, _, _, _, _ => none
 | k + 1, x0, x1, x5, x6 => if 0 ≤ x5 then (if x5 < (x0.length : Int) then (if x6 < ((rd_L1 x0 x5).length : Int) then (if 0 ≤ x6 then (if x5 < (x1.length : Int) then (if x6 < ((rd_L1 x1 x5).length : Int) then (if (rd (rd_L1 x0 x5) x6) = (rd (rd_L1 x1 x5) x6) then (clocheref09_Same.l1 k x0 x1 x5 (wrap64 (x6 + 1))) else (some false)) else (none)) else (none)) else (none)) else (clocheref09_Same.l0 k x0 x1 (wrap64 (x5 + 1)))) else (none)) else (none)
end
def clocheref09_Same.f (k : Nat) (l0 : List (List Int)) (l1 : List (List Int)) : Option (Bool) := if (l0.length : Int) = (l1.length : Int) then (clocheref09_Same.l0 k l0 l1 0) else (some false)
theorem clocheref09_Same.mono_l : ∀ k, (∀ y0 y1 y2, LeO (clocheref09_Same.l0 k y0 y1 y2) (clocheref09_Same.l0 (k + 1) y0 y1 y2)) ∧ (∀ y0 y1 y2 y3, LeO (clocheref09_Same.l1 k y0 y1 y2 y3) (clocheref09_Same.l1 (k + 1) y0 y1 y2 y3))
 | 0 => ⟨fun _ _ _ r h => by simp [clocheref09_Same.l0] at h, fun _ _ _ _ r h => by simp [clocheref09_Same.l1] at h⟩
 | k + 1 => by
  obtain ⟨ih0, ih1⟩ := clocheref09_Same.mono_l k
  refine ⟨?_, ?_⟩
  · intro y0 y1 y2
    unfold clocheref09_Same.l0
    repeat' first
    | (with_reducible exact ih0 _ _ _)
    | (with_reducible exact ih1 _ _ _ _)
    | (with_reducible exact LeO.refl _)
    | (with_reducible exact LeO.none _)
    | (with_reducible refine LeO.ite ?_ ?_)
    | (with_reducible refine LeO.bind ?_ (fun _ => ?_))
    | exact ih0 _ _ _
    | exact ih1 _ _ _ _
    | exact LeO.none _
    | refine LeO.ite ?_ ?_
    | refine LeO.bind ?_ (fun _ => ?_)
  · intro y0 y1 y2 y3
    unfold clocheref09_Same.l1
    repeat' first
    | (with_reducible exact ih0 _ _ _)
    | (with_reducible exact ih1 _ _ _ _)
    | (with_reducible exact LeO.refl _)
    | (with_reducible exact LeO.none _)
    | (with_reducible refine LeO.ite ?_ ?_)
    | (with_reducible refine LeO.bind ?_ (fun _ => ?_))
    | exact ih0 _ _ _
    | exact ih1 _ _ _ _
    | exact LeO.none _
    | refine LeO.ite ?_ ?_
    | refine LeO.bind ?_ (fun _ => ?_)
theorem clocheref09_Same.mono : ∀ a0 a1 k, LeO (clocheref09_Same.f k a0 a1) (clocheref09_Same.f (k + 1) a0 a1) := by
 intro a0 a1 k
 obtain ⟨ih0, ih1⟩ := clocheref09_Same.mono_l k
 unfold clocheref09_Same.f
 repeat' first
  | (with_reducible exact ih0 _ _ _)
  | (with_reducible exact ih1 _ _ _ _)
  | (with_reducible exact LeO.refl _)
  | (with_reducible exact LeO.none _)
  | (with_reducible refine LeO.ite ?_ ?_)
  | (with_reducible refine LeO.bind ?_ (fun _ => ?_))
  | exact ih0 _ _ _
  | exact ih1 _ _ _ _
  | exact LeO.none _
  | refine LeO.ite ?_ ?_
  | refine LeO.bind ?_ (fun _ => ?_)
set_option maxHeartbeats 8000000 in
set_option maxRecDepth 100000 in
theorem clocheref09_Same.calls (k : Nat) (A0 : Option Addr) (c0 : Nat) (l0 : List (List Int)) (A1 : Option Addr) (c1 : Nat) (l1 : List (List Int)) (r : Bool) (w : World) (hr0 : Kd.C (Kd.slice 3 (Kd.int .i64)) w A0 l0.length l0) (hc0 : l0.length ≤ c0) (hr1 : Kd.C (Kd.slice 3 (Kd.int .i64)) w A1 l1.length l1) (hc1 : l1.length ≤ c1) (h : clocheref09_Same.f k l0 l1 = some r) :
 Calls Try.prog 14 #[.slice A0 l0.length c0, .slice A1 l1.length c1] w fun e w' => e = .returned (.bool r) ∧ Drawn0 w w' := by
 have HR0 := Aside0.mk hr0
 have HC0 := Aside0.mk hc0
 clear hr0 hc0
 have HR1 := Aside0.mk hr1
 have HC1 := Aside0.mk hc1
 clear hr1 hc1
 have H : (if (l0.length : Int) = (l1.length : Int) then (clocheref09_Same.l0 k l0 l1 0) else (some false)) = some r := h
 clear h
 by_cases c3 : (l0.length : Int) = (l1.length : Int)
 · rw [if_pos c3] at H
   have c3b0 : ((l0.length : Int) == (l1.length : Int)) = true := beq_iff_eq.mpr c3
   have c3b1 : ((l0.length : Int) != (l1.length : Int)) = false := bne_eq_false_iff_eq.mpr c3
   have c3b2 : (l0.length == l1.length) = true := by first | simpa using c3 | (simp at c3 ⊢; omega)
   clear c3
   have H' := Aside0.mk H
   clear H
   go_enter Try.func14, Try.ntmps14
   go_wp2
   repeat (go_quiet (fail); try go_wp2)
   go_loopg [5] k (fun kq v5 w' => ∃ (x5_1 : Int), v5 = .int .i64 x5_1 ∧ Aside0 (clocheref09_Same.l0 kq l0 l1 x5_1 = some r) ∧ Aside0 (kq ≤ k) ∧ Drawn0 w w')
   case atStart => exact ⟨(0), rf_, H', ⟨Nat.le_refl _⟩, dr_⟩
   case round =>
    clear H'
    try clear c1
    try clear p2
    try clear c3
    try clear c3b0
    try clear c3b1
    try clear c3b2
    obtain ⟨x5_1, rfl, HA, HK1, ⟨m1, rfl⟩⟩ := hrel
    cases gk with
    | zero => exact absurd HA.out (by simp [clocheref09_Same.l0])
    | succ k1 =>
     have H := HA.out
     clear HA
     simp only [clocheref09_Same.l0] at H
     by_cases c4 : x5_1 < (l0.length : Int)
     · rw [if_pos c4] at H
       have c4b0 : decide (x5_1 < (l0.length : Int)) = true := decide_eq_true c4
       clear c4
       by_cases c5 : 0 ≤ x5_1
       · rw [if_pos c5] at H
         have c5b0 : decide (0 ≤ x5_1) = true := decide_eq_true c5
         clear c5
         by_cases c6 : x5_1 < (l1.length : Int)
         · rw [if_pos c6] at H
           have c6b0 : decide (x5_1 < (l1.length : Int)) = true := decide_eq_true c6
           clear c6
           by_cases c7 : ((rd_L1 l0 x5_1).length : Int) = ((rd_L1 l1 x5_1).length : Int)
           · rw [if_pos c7] at H
             have c7b0 : (((rd_L1 l0 x5_1).length : Int) == ((rd_L1 l1 x5_1).length : Int)) = true := beq_iff_eq.mpr c7
             have c7b1 : (((rd_L1 l0 x5_1).length : Int) != ((rd_L1 l1 x5_1).length : Int)) = false := bne_eq_false_iff_eq.mpr c7
             have c7b2 : ((rd_L1 l0 x5_1).length == (rd_L1 l1 x5_1).length) = true := by first | simpa using c7 | (simp at c7 ⊢; omega)
             clear c7
             have H' := Aside0.mk H
             clear H
             have p120 : 0 ≤ (x5_1 : Int) := od_
             have q120 : x5_1 < (l0.length : Int) := od_
             obtain ⟨ad120, A120_0, c120_0, e120, hx120_0, hl120_0, hi120_0⟩ := at_L1 HR0.out x5_1 p120 q120
             cases e120
             have HR120_0 := Aside0.mk hi120_0
             have HC120_0 := Aside0.mk hl120_0
             clear hi120_0 hl120_0
             replace p120 := eq_true p120
             replace q120 := eq_true q120
             have p121 : 0 ≤ (x5_1 : Int) := od_
             have q121 : x5_1 < (l1.length : Int) := od_
             obtain ⟨ad121, A121_0, c121_0, e121, hx121_0, hl121_0, hi121_0⟩ := at_L1 HR1.out x5_1 p121 q121
             cases e121
             have HR121_0 := Aside0.mk hi121_0
             have HC121_0 := Aside0.mk hl121_0
             clear hi121_0 hl121_0
             replace p121 := eq_true p121
             replace q121 := eq_true q121
             go_wp2
             repeat (go_quiet (fail); try go_wp2)
             go_loopg [6] k1 (fun kq v6 w' => ∃ (x6_2 : Int), v6 = .int .i64 x6_2 ∧ Aside0 (clocheref09_Same.l1 kq l0 l1 x5_1 x6_2 = some r) ∧ Aside0 (kq ≤ k1) ∧ Drawn0 w w')
             case atStart => exact ⟨(0), rf_, H', ⟨Nat.le_refl _⟩, dr_⟩
             case round =>
              clear H'
              try clear c1
              try clear p1
              try clear q1
              try clear hx1
              try clear p2
              try clear c3
              try clear c3b0
              try clear c3b1
              try clear c3b2
              try clear c4
              try clear c4b0
              try clear c5
              try clear c5b0
              try clear c6
              try clear c6b0
              try clear c7
              try clear c7b0
              try clear c7b1
              try clear c7b2
              try clear hx120_0
              try clear hx121_0
              try clear p120
              try clear p121
              try clear p2
              try clear q120
              try clear q121
              obtain ⟨x6_2, rfl, HA, HK2, ⟨m2, rfl⟩⟩ := hrel
              cases gk with
              | zero => exact absurd HA.out (by simp [clocheref09_Same.l1])
              | succ k2 =>
               have H := HA.out
               clear HA
               simp only [clocheref09_Same.l1] at H
               by_cases c8 : 0 ≤ x5_1
               · rw [if_pos c8] at H
                 have c8b0 : decide (0 ≤ x5_1) = true := decide_eq_true c8
                 clear c8
                 by_cases c9 : x5_1 < (l0.length : Int)
                 · rw [if_pos c9] at H
                   have c9b0 : decide (x5_1 < (l0.length : Int)) = true := decide_eq_true c9
                   clear c9
                   by_cases c10 : x6_2 < ((rd_L1 l0 x5_1).length : Int)
                   · rw [if_pos c10] at H
                     have c10b0 : decide (x6_2 < ((rd_L1 l0 x5_1).length : Int)) = true := decide_eq_true c10
                     clear c10
                     by_cases c11 : 0 ≤ x6_2
                     · rw [if_pos c11] at H
                       have c11b0 : decide (0 ≤ x6_2) = true := decide_eq_true c11
                       clear c11
                       by_cases c12 : x5_1 < (l1.length : Int)
                       · rw [if_pos c12] at H
                         have c12b0 : decide (x5_1 < (l1.length : Int)) = true := decide_eq_true c12
                         clear c12
                         by_cases c13 : x6_2 < ((rd_L1 l1 x5_1).length : Int)
                         · rw [if_pos c13] at H
                           have c13b0 : decide (x6_2 < ((rd_L1 l1 x5_1).length : Int)) = true := decide_eq_true c13
                           clear c13
                           by_cases c14 : (rd (rd_L1 l0 x5_1) x6_2) = (rd (rd_L1 l1 x5_1) x6_2)
                           · rw [if_pos c14] at H
                             have c14b0 : ((rd (rd_L1 l0 x5_1) x6_2) == (rd (rd_L1 l1 x5_1) x6_2)) = true := beq_iff_eq.mpr c14
                             have c14b1 : ((rd (rd_L1 l0 x5_1) x6_2) != (rd (rd_L1 l1 x5_1) x6_2)) = false := bne_eq_false_iff_eq.mpr c14
                             clear c14
                             have H' := Aside0.mk H
                             clear H
                             have p122 : 0 ≤ (x5_1 : Int) := od_
                             have q122 : x5_1 < (l0.length : Int) := od_
                             obtain ⟨ad122, A122_0, c122_0, e122, hx122_0, hl122_0, hi122_0⟩ := at_L1 HR0.out x5_1 p122 q122
                             obtain rfl : ad120 = ad122 := (by injection e122)
                             have HR122_0 := Aside0.mk hi122_0
                             have HC122_0 := Aside0.mk hl122_0
                             clear hi122_0 hl122_0
                             replace p122 := eq_true p122
                             replace q122 := eq_true q122
                             have p123 : 0 ≤ (x5_1 : Int) := od_
                             have q123 : x5_1 < (l0.length : Int) := od_
                             obtain ⟨ad123, A123_0, c123_0, e123, hx123_0, hl123_0, hi123_0⟩ := at_L1 HR0.out x5_1 p123 q123
                             obtain rfl : ad120 = ad123 := (by injection e123)
                             have HR123_0 := Aside0.mk hi123_0
                             have HC123_0 := Aside0.mk hl123_0
                             clear hi123_0 hl123_0
                             replace p123 := eq_true p123
                             replace q123 := eq_true q123
                             have ea_ := Option.some.inj (hx122_0.symm.trans hx123_0)
                             injection ea_ with ea_ en_ ec_
                             subst ea_
                             subst ec_
                             clear en_
                             have p124 : 0 ≤ (x6_2 : Int) := od_
                             have q124 : x6_2 < ((rd_L1 l0 x5_1).length : Int) := od_
                             obtain ⟨ad124, e124, hx124_0⟩ := Kd.at_int HR123_0.out x6_2 p124 q124
                             cases e124
                             replace p124 := eq_true p124
                             replace q124 := eq_true q124
                             have p125 : 0 ≤ (x5_1 : Int) := od_
                             have q125 : x5_1 < (l1.length : Int) := od_
                             obtain ⟨ad125, A125_0, c125_0, e125, hx125_0, hl125_0, hi125_0⟩ := at_L1 HR1.out x5_1 p125 q125
                             obtain rfl : ad121 = ad125 := (by injection e125)
                             have HR125_0 := Aside0.mk hi125_0
                             have HC125_0 := Aside0.mk hl125_0
                             clear hi125_0 hl125_0
                             replace p125 := eq_true p125
                             replace q125 := eq_true q125
                             have p126 : 0 ≤ (x6_2 : Int) := od_
                             have q126 : x6_2 < ((rd_L1 l1 x5_1).length : Int) := od_
                             obtain ⟨ad126, e126, hx126_0⟩ := Kd.at_int HR125_0.out x6_2 p126 q126
                             cases e126
                             replace p126 := eq_true p126
                             replace q126 := eq_true q126
                             go_wp2
                             repeat (go_quiet (fail); try go_wp2)
                             go_roundg k2
                             case measure => have := HK1.out; have := HK2.out; omega
                             case rel => exact ⟨(wrap64 (x6_2 + 1)), rf_, H', ⟨by have := HK1.out; have := HK2.out; omega⟩, dr_⟩
                           · rw [if_neg c14] at H
                             have c14b0 : ((rd (rd_L1 l0 x5_1) x6_2) == (rd (rd_L1 l1 x5_1) x6_2)) = false := beq_eq_false_iff_ne.mpr c14
                             have c14b1 : ((rd (rd_L1 l0 x5_1) x6_2) != (rd (rd_L1 l1 x5_1) x6_2)) = true := bne_iff_ne.mpr c14
                             obtain rfl := Option.some.inj H
                             have p122 : 0 ≤ (x5_1 : Int) := od_
                             have q122 : x5_1 < (l0.length : Int) := od_
                             obtain ⟨ad122, A122_0, c122_0, e122, hx122_0, hl122_0, hi122_0⟩ := at_L1 HR0.out x5_1 p122 q122
                             obtain rfl : ad120 = ad122 := (by injection e122)
                             have HR122_0 := Aside0.mk hi122_0
                             have HC122_0 := Aside0.mk hl122_0
                             clear hi122_0 hl122_0
                             replace p122 := eq_true p122
                             replace q122 := eq_true q122
                             have p123 : 0 ≤ (x5_1 : Int) := od_
                             have q123 : x5_1 < (l0.length : Int) := od_
                             obtain ⟨ad123, A123_0, c123_0, e123, hx123_0, hl123_0, hi123_0⟩ := at_L1 HR0.out x5_1 p123 q123
                             obtain rfl : ad120 = ad123 := (by injection e123)
                             have HR123_0 := Aside0.mk hi123_0
                             have HC123_0 := Aside0.mk hl123_0
                             clear hi123_0 hl123_0
                             replace p123 := eq_true p123
                             replace q123 := eq_true q123
                             have ea_ := Option.some.inj (hx122_0.symm.trans hx123_0)
                             injection ea_ with ea_ en_ ec_
                             subst ea_
                             subst ec_
                             clear en_
                             have p124 : 0 ≤ (x6_2 : Int) := od_
                             have q124 : x6_2 < ((rd_L1 l0 x5_1).length : Int) := od_
                             obtain ⟨ad124, e124, hx124_0⟩ := Kd.at_int HR123_0.out x6_2 p124 q124
                             cases e124
                             replace p124 := eq_true p124
                             replace q124 := eq_true q124
                             have p125 : 0 ≤ (x5_1 : Int) := od_
                             have q125 : x5_1 < (l1.length : Int) := od_
                             obtain ⟨ad125, A125_0, c125_0, e125, hx125_0, hl125_0, hi125_0⟩ := at_L1 HR1.out x5_1 p125 q125
                             obtain rfl : ad121 = ad125 := (by injection e125)
                             have HR125_0 := Aside0.mk hi125_0
                             have HC125_0 := Aside0.mk hl125_0
                             clear hi125_0 hl125_0
                             replace p125 := eq_true p125
                             replace q125 := eq_true q125
                             have p126 : 0 ≤ (x6_2 : Int) := od_
                             have q126 : x6_2 < ((rd_L1 l1 x5_1).length : Int) := od_
                             obtain ⟨ad126, e126, hx126_0⟩ := Kd.at_int HR125_0.out x6_2 p126 q126
                             cases e126
                             replace p126 := eq_true p126
                             replace q126 := eq_true q126
                             go_wp2
                             repeat (go_quiet (fail); try go_wp2)
                             go_ret
                             exact ⟨rf_, dr_⟩
                         · rw [if_neg c13] at H
                           exact absurd H (by simp)
                       · rw [if_neg c12] at H
                         exact absurd H (by simp)
                     · rw [if_neg c11] at H
                       exact absurd H (by simp)
                   · rw [if_neg c10] at H
                     have c10b0 : decide (x6_2 < ((rd_L1 l0 x5_1).length : Int)) = false := decide_eq_false c10
                     clear c10
                     have H' := Aside0.mk H
                     clear H
                     have p122 : 0 ≤ (x5_1 : Int) := od_
                     have q122 : x5_1 < (l0.length : Int) := od_
                     obtain ⟨ad122, A122_0, c122_0, e122, hx122_0, hl122_0, hi122_0⟩ := at_L1 HR0.out x5_1 p122 q122
                     obtain rfl : ad120 = ad122 := (by injection e122)
                     have HR122_0 := Aside0.mk hi122_0
                     have HC122_0 := Aside0.mk hl122_0
                     clear hi122_0 hl122_0
                     replace p122 := eq_true p122
                     replace q122 := eq_true q122
                     go_wp2
                     repeat (go_quiet (fail); try go_wp2)
                     go_roundg k2
                     case measure => have := HK1.out; have := HK2.out; omega
                     case rel => exact ⟨(wrap64 (x5_1 + 1)), rf_, H', ⟨by have := HK1.out; have := HK2.out; omega⟩, dr_⟩
                 · rw [if_neg c9] at H
                   exact absurd H (by simp)
               · rw [if_neg c8] at H
                 exact absurd H (by simp)
           · rw [if_neg c7] at H
             have c7b0 : (((rd_L1 l0 x5_1).length : Int) == ((rd_L1 l1 x5_1).length : Int)) = false := beq_eq_false_iff_ne.mpr c7
             have c7b1 : (((rd_L1 l0 x5_1).length : Int) != ((rd_L1 l1 x5_1).length : Int)) = true := bne_iff_ne.mpr c7
             have c7b2 : ((rd_L1 l0 x5_1).length == (rd_L1 l1 x5_1).length) = false := by first | simpa using c7 | (simp at c7 ⊢; omega)
             obtain rfl := Option.some.inj H
             have p120 : 0 ≤ (x5_1 : Int) := od_
             have q120 : x5_1 < (l0.length : Int) := od_
             obtain ⟨ad120, A120_0, c120_0, e120, hx120_0, hl120_0, hi120_0⟩ := at_L1 HR0.out x5_1 p120 q120
             cases e120
             have HR120_0 := Aside0.mk hi120_0
             have HC120_0 := Aside0.mk hl120_0
             clear hi120_0 hl120_0
             replace p120 := eq_true p120
             replace q120 := eq_true q120
             have p121 : 0 ≤ (x5_1 : Int) := od_
             have q121 : x5_1 < (l1.length : Int) := od_
             obtain ⟨ad121, A121_0, c121_0, e121, hx121_0, hl121_0, hi121_0⟩ := at_L1 HR1.out x5_1 p121 q121
             cases e121
             have HR121_0 := Aside0.mk hi121_0
             have HC121_0 := Aside0.mk hl121_0
             clear hi121_0 hl121_0
             replace p121 := eq_true p121
             replace q121 := eq_true q121
             go_wp2
             repeat (go_quiet (fail); try go_wp2)
             go_ret
             exact ⟨rf_, dr_⟩
         · rw [if_neg c6] at H
           exact absurd H (by simp)
       · rw [if_neg c5] at H
         exact absurd H (by simp)
     · rw [if_neg c4] at H
       have c4b0 : decide (x5_1 < (l0.length : Int)) = false := decide_eq_false c4
       clear c4
       obtain rfl := Option.some.inj H
       go_wp2
       repeat (go_quiet (fail); try go_wp2)
       go_ret
       exact ⟨rf_, dr_⟩
 · rw [if_neg c3] at H
   have c3b0 : ((l0.length : Int) == (l1.length : Int)) = false := beq_eq_false_iff_ne.mpr c3
   have c3b1 : ((l0.length : Int) != (l1.length : Int)) = true := bne_iff_ne.mpr c3
   have c3b2 : (l0.length == l1.length) = false := by first | simpa using c3 | (simp at c3 ⊢; omega)
   obtain rfl := Option.some.inj H
   go_enter Try.func14, Try.ntmps14
   go_wp2
   repeat (go_quiet (fail); try go_wp2)
   go_ret
   exact ⟨rf_, dr_⟩

end Go.Proofs.Ytdinepghommchaa.V

/- Tables in the shape of a triangle: what From and fair let through; there are only so many. -/
namespace Go.Proofs.Ytdinepghommchaa.V
open Go.RowKit Go.Proofs.YtdinepghommchaaW.PrintWords Go.Proofs.YtdinepghommchaaW.PrintLast Go.Proofs.YtdinepghommchaaW.PrintMore
theorem all_split {α : Type} {P : α → Bool} (m : Nat) {l : List α} (h : (l.take m).all P = true) (k : (l.drop m).all P = true) : l.all P = true := by
 rw [← List.take_append_drop m l, List.all_append, h, k]
 rfl
def rowGood (n : Nat) (r : List Int) (j : Nat) : Prop := 1 ≤ r.getD j 0 ∧ r.getD j 0 ≤ (n : Int) ∧ (0 < j → r.getD (j - 1) 0 < r.getD j 0)
structure Shape (t : List (List Int)) : Prop where
 n1 : 1 ≤ t.length
 n5 : t.length ≤ 5
 rows : ∀ i, i < t.length → (t.getD i []).length = i + 1 ∧ ∀ j, j < i + 1 → rowGood t.length (t.getD i []) j
theorem from_l1 (t : List (List Int)) (n i : Nat) (r : List Int) (hi : i ≤ 20) (hr : r.length = i + 1) : ∀ d k j, j + d = r.length →
 veils_From.l1 (k + d + 1) t n r t n i r r.length j = some ([], 2) ∨
 ((∀ m, j ≤ m → m < r.length → rowGood n r m) ∧ veils_From.l1 (k + d + 1) t n r t n i r r.length j = veils_From.l0 k t n t n (i + 1 : Nat))
 | 0, k, j, h => by
  right
  refine ⟨fun m h1 h2 => by omega, ?_⟩
  rw [Nat.add_zero, veils_From.l1, if_neg (by omega), wr_succ i (by omega)]
 | d + 1, k, j, h => by
  have ih := from_l1 t n i r hi hr d k (j + 1) (by omega)
  rw [show k + (d + 1) + 1 = (k + d + 1) + 1 from rfl, veils_From.l1, if_pos (by omega), if_pos (by omega), if_pos (by omega), rd_cast]
  by_cases c1 : r.getD j 0 < 1
  · left; rw [if_pos c1]
  rw [if_neg c1]
  by_cases c2 : r.getD j 0 > (n : Int)
  · left; rw [if_pos c2]
  rw [if_neg c2, wr_succ j (by omega)]
  have fin : (0 < j → r.getD (j - 1) 0 < r.getD j 0) → veils_From.l1 (k + d + 1) t n r t n i r r.length (j + 1 : Nat) = some ([], 2) ∨
   ((∀ m, j ≤ m → m < r.length → rowGood n r m) ∧ veils_From.l1 (k + d + 1) t n r t n i r r.length (j + 1 : Nat) = veils_From.l0 k t n t n (i + 1 : Nat)) := by
    intro h3
    rcases ih with ih | ⟨ih1, ih2⟩
    · left; exact ih
    · right
      refine ⟨fun m h1 h2 => ?_, ih2⟩
      by_cases e : m = j
      · subst e; exact ⟨by omega, by omega, h3⟩
      · exact ih1 m (by omega) h2
  by_cases c3 : (j : Int) > 0
  · have e : wrap64 ((j : Int) - 1) = ((j - 1 : Nat) : Int) := by rw [wr _ (by omega)]; omega
    rw [if_pos c3, e, if_pos (by omega), if_pos (by omega), rd_cast]
    by_cases c4 : r.getD j 0 ≤ r.getD (j - 1) 0
    · left; rw [if_pos c4]
    · rw [if_neg c4]
      exact fin fun _ => by omega
  · rw [if_neg c3]
    exact fin fun h0 => by omega
theorem from_l0 (t : List (List Int)) (n : Nat) (hn : n ≤ 20) (ht : t.length = n) : ∀ d k i, i + d = n →
 veils_From.l0 (k + d * (n + 2) + 1) t n t n i = some ([], 2) ∨ ∀ m, i ≤ m → m < n → (t.getD m []).length = m + 1 ∧ ∀ j, j < m + 1 → rowGood n (t.getD m []) j
 | 0, k, i, h => .inr fun m a b => by omega
 | d + 1, k, i, h => by
  rw [show k + (d + 1) * (n + 2) + 1 = (k + d * (n + 2) + 1 + n + 1) + 1 by rw [Nat.succ_mul]; omega, veils_From.l0, if_pos (by omega), if_pos (by omega), if_pos (by omega), rdL1_cast, wr_succ i (by omega)]
  by_cases c : (((t.getD i []).length : Nat) : Int) = ((i + 1 : Nat) : Int)
  · rw [if_pos c]
    have hl : (t.getD i []).length = i + 1 := by omega
    rcases from_l1 t n i (t.getD i []) (by omega) hl (i + 1) (k + (n - i - 1) + d * (n + 2) + 1) 0 (by omega) with h1 | ⟨h1, h2⟩
    · left
      rw [show k + (n - i - 1) + d * (n + 2) + 1 + (i + 1) + 1 = k + d * (n + 2) + 1 + n + 1 by omega] at h1
      exact h1
    · rw [show k + (n - i - 1) + d * (n + 2) + 1 + (i + 1) + 1 = k + d * (n + 2) + 1 + n + 1 by omega, show ((0 : Nat) : Int) = 0 from rfl] at h2
      rw [h2]
      rcases from_l0 t n hn ht d (k + (n - i - 1)) (i + 1) (by omega) with ih | ih
      · left; exact ih
      · right
        intro m a b
        by_cases e : m = i
        · subst e; exact ⟨hl, fun j hj => h1 j (by omega) (by omega)⟩
        · exact ih m (by omega) b
  · left; rw [if_neg c]
theorem from_spec (t : List (List Int)) : veils_From.f 200 t = some ([], 2) ∨ Shape t := by
 unfold veils_From.f
 by_cases c1 : (t.length : Int) < 1
 · left; rw [if_pos c1, veils_From.j0, if_pos rfl]
 rw [if_neg c1]
 by_cases c2 : (t.length : Int) > 5
 · left; rw [decide_eq_true c2, veils_From.j0, if_pos rfl]
 rw [decide_eq_false c2, veils_From.j0, if_neg (by decide)]
 obtain ⟨n, hn⟩ : ∃ n, n = t.length := ⟨_, rfl⟩
 have h7 : n * (n + 2) ≤ 5 * 7 := Nat.mul_le_mul (by omega) (by omega)
 rcases from_l0 t n (by omega) hn.symm n (198 - n * (n + 2)) 0 (by omega) with h | h
 · left
   rw [show 198 - n * (n + 2) + n * (n + 2) + 1 = 199 by omega] at h
   rw [← hn]
   exact h
 · right
   subst hn
   exact ⟨by omega, by omega, fun i hi => h i (by omega) hi⟩
theorem fair_l1 (t : List (List Int)) (n i : Nat) (hi : i ≤ 20) (ht : i < t.length) (hr : (t.getD i []).length = i + 1) : ∀ d k j, j + d = i + 1 →
 clochelaw09_fair.l1 (k + d + 1) t n i j = some false ∨
 ((∀ m, j ≤ m → m < i + 1 → rowGood n (t.getD i []) m) ∧ clochelaw09_fair.l1 (k + d + 1) t n i j = clochelaw09_fair.l0 k t n (i + 1 : Nat))
 | 0, k, j, h => by
   right
   refine ⟨fun m h1 h2 => by omega, ?_⟩
   rw [Nat.add_zero, clochelaw09_fair.l1, if_neg (by omega), wr_succ i (by omega)]
 | d + 1, k, j, h => by
   have ih := fair_l1 t n i hi ht hr d k (j + 1) (by omega)
   rw [show k + (d + 1) + 1 = (k + d + 1) + 1 from rfl, clochelaw09_fair.l1, if_pos (by omega), if_pos (by omega), if_pos (by omega), if_pos (by omega), rdL1_cast, if_pos (by omega), rd_cast]
   by_cases c1 : (t.getD i []).getD j 0 < 1
   · left; rw [if_pos c1]
   rw [if_neg c1]
   by_cases c2 : (t.getD i []).getD j 0 > (n : Int)
   · left; rw [if_pos c2]
   rw [if_neg c2, wr_succ j (by omega)]
   have fin : (0 < j → (t.getD i []).getD (j - 1) 0 < (t.getD i []).getD j 0) → clochelaw09_fair.l1 (k + d + 1) t n i (j + 1 : Nat) = some false ∨
    ((∀ m, j ≤ m → m < i + 1 → rowGood n (t.getD i []) m) ∧ clochelaw09_fair.l1 (k + d + 1) t n i (j + 1 : Nat) = clochelaw09_fair.l0 k t n (i + 1 : Nat)) := by
     intro h3
     rcases ih with ih | ⟨ih1, ih2⟩
     · left; exact ih
     · right
       refine ⟨fun m h1 h2 => ?_, ih2⟩
       by_cases e : m = j
       · subst e; exact ⟨by omega, by omega, h3⟩
       · exact ih1 m (by omega) h2
   by_cases c3 : (j : Int) > 0
   · have e : wrap64 ((j : Int) - 1) = ((j - 1 : Nat) : Int) := by rw [wr _ (by omega)]; omega
     rw [if_pos c3, e, if_pos (by omega), if_pos (by omega), rd_cast]
     by_cases c4 : (t.getD i []).getD j 0 ≤ (t.getD i []).getD (j - 1) 0
     · left; rw [if_pos c4]
     · rw [if_neg c4]
       exact fin fun _ => by omega
   · rw [if_neg c3]
     exact fin fun h0 => by omega
theorem fair_l0 (t : List (List Int)) (n : Nat) (hn : n ≤ 20) (ht : t.length = n) : ∀ d k i, i + d = n →
 clochelaw09_fair.l0 (k + d * (n + 2) + 1) t n i = some false ∨ ∀ m, i ≤ m → m < n → (t.getD m []).length = m + 1 ∧ ∀ j, j < m + 1 → rowGood n (t.getD m []) j
 | 0, k, i, h => .inr fun m a b => by omega
 | d + 1, k, i, h => by
  rw [show k + (d + 1) * (n + 2) + 1 = (k + d * (n + 2) + 1 + n + 1) + 1 by rw [Nat.succ_mul]; omega, clochelaw09_fair.l0, if_pos (by omega), if_pos (by omega), if_pos (by omega), rdL1_cast, wr_succ i (by omega)]
  by_cases c : (((t.getD i []).length : Nat) : Int) = ((i + 1 : Nat) : Int)
  · rw [if_pos c]
    have hl : (t.getD i []).length = i + 1 := by omega
    rcases fair_l1 t n i (by omega) (by omega) hl (i + 1) (k + (n - i - 1) + d * (n + 2) + 1) 0 (by omega) with h1 | ⟨h1, h2⟩
    · left
      rw [show k + (n - i - 1) + d * (n + 2) + 1 + (i + 1) + 1 = k + d * (n + 2) + 1 + n + 1 by omega] at h1
      exact h1
    · rw [show k + (n - i - 1) + d * (n + 2) + 1 + (i + 1) + 1 = k + d * (n + 2) + 1 + n + 1 by omega, show ((0 : Nat) : Int) = 0 from rfl] at h2
      rw [h2]
      rcases fair_l0 t n hn ht d (k + (n - i - 1)) (i + 1) (by omega) with ih | ih
      · left; exact ih
      · right
        intro m a b
        by_cases e : m = i
        · subst e; exact ⟨hl, fun j hj => h1 j (by omega) (by omega)⟩
        · exact ih m (by omega) b
  · left; rw [if_neg c]
theorem fair_spec (t : List (List Int)) : clochelaw09_fair.f 200 t = some false ∨ Shape t := by
 unfold clochelaw09_fair.f
 by_cases c1 : (t.length : Int) < 1
 · left; rw [if_pos c1, clochelaw09_fair.j0, if_pos rfl]
 rw [if_neg c1]
 by_cases c2 : (t.length : Int) > 5
 · left; rw [decide_eq_true c2, clochelaw09_fair.j0, if_pos rfl]
 rw [decide_eq_false c2, clochelaw09_fair.j0, if_neg (by decide)]
 obtain ⟨n, hn⟩ : ∃ n, n = t.length := ⟨_, rfl⟩
 have h7 : n * (n + 2) ≤ 5 * 7 := Nat.mul_le_mul (by omega) (by omega)
 rcases fair_l0 t n (by omega) hn.symm n (198 - n * (n + 2)) 0 (by omega) with h | h
 · left
   rw [show 198 - n * (n + 2) + n * (n + 2) + 1 = 199 by omega] at h
   rw [← hn]
   exact h
 · right
   subst hn
   exact ⟨by omega, by omega, fun i hi => h i (by omega) hi⟩

/-- The rows that a triangle can have. -/
def okAsc (p : List Int) : Bool :=
 match p.length with
 | m + 2 => decide (p.getD m 0 < p.getD (m + 1) 0)
 | _ => true
def rowT (n k : Nat) : List (List Int) := grow ((List.range n).map fun i : Nat => ((i + 1 : Nat) : Int)) okAsc k
def shp (n : Nat) : Nat → List (List (List Int))
 | 0 => [[]]
 | k + 1 => (shp n k).flatMap fun p => (rowT n (k + 1)).map fun r => p ++ [r]
/-- All that goes on from a beginning is good. -/
def subS (n : Nat) (P : List (List Int) → Bool) : Nat → Nat → List (List Int) → Bool
 | 0, _, p => P p
 | k + 1, m, p => (rowT n (m + 1)).all fun r => subS n P k (m + 1) (p ++ [r])
theorem shp_sub {n : Nat} {P : List (List Int) → Bool} : ∀ (k m : Nat), (∀ p ∈ shp n m, subS n P k m p = true) → ∀ q ∈ shp n (m + k), P q = true
 | 0, m, h, q, hq => h q hq
 | k + 1, m, h, q, hq => by
   refine shp_sub k (m + 1) (fun p' hp' => ?_) q (by rw [show m + 1 + k = m + (k + 1) by omega]; exact hq)
   simp only [shp, List.mem_flatMap, List.mem_map] at hp'
   obtain ⟨p, hp, r, hr, rfl⟩ := hp'
   have := h p hp
   rw [subS, List.all_eq_true] at this
   exact this r hr
theorem rowT_mem {n : Nat} {r : List Int} (h : ∀ j, j < r.length → rowGood n r j) : r ∈ rowT n r.length := by
 have h1 : ∀ x ∈ r, x ∈ (List.range n).map fun i : Nat => ((i + 1 : Nat) : Int) := by
   intro x hx
   obtain ⟨i, hi, rfl⟩ := List.getElem_of_mem hx
   obtain ⟨a, b, _⟩ := h i hi
   rw [List.getD_eq_getElem?_getD, List.getElem?_eq_getElem hi] at a b
   simp only [Option.getD_some] at a b
   rw [List.mem_map]
   exact ⟨r[i].toNat - 1, List.mem_range.mpr (by omega), by omega⟩
 have tk : ∀ m i, i < m → (r.take m).getD i 0 = r.getD i 0 := fun m i hi => by
   rw [List.getD_eq_getElem?_getD, List.getElem?_take_of_lt hi, List.getD_eq_getElem?_getD]
 have := mem_grow (cands := (List.range n).map fun i : Nat => ((i + 1 : Nat) : Int)) (ok := okAsc) h1 (fun m hm => by
   unfold okAsc
   have hlen : (r.take m).length = m := by rw [List.length_take]; omega
   rw [hlen]
   match m, hm with
   | 0, _ => rfl
   | 1, _ => rfl
   | i + 2, hm =>
    dsimp only
    rw [tk (i + 2) i (by omega), tk (i + 2) (i + 1) (by omega), decide_eq_true_eq]
    exact (h (i + 1) (by omega)).2.2 (by omega)) r.length (Nat.le_refl _)
 rwa [List.take_length] at this
theorem Shape.mem {t : List (List Int)} (h : Shape t) : t ∈ shp t.length t.length := by
 have : ∀ m, m ≤ t.length → t.take m ∈ shp t.length m := by
   intro m
   induction m with
   | zero => intro _; simp [shp]
   | succ m ih =>
    intro hm
    have hlt : m < t.length := by omega
    have e : t.getD m [] = t[m] := by simp [List.getD_eq_getElem?_getD, List.getElem?_eq_getElem hlt]
    obtain ⟨h1, h2⟩ := h.rows m hlt
    have hr := rowT_mem (n := t.length) (r := t.getD m []) (fun j hj => h2 j (by omega))
    rw [h1] at hr
    rw [List.take_add_one, List.getElem?_eq_getElem hlt]
    simp only [shp, List.mem_flatMap, List.mem_map]
    exact ⟨_, ih (by omega), _, hr, by rw [e]; rfl⟩
 have := this t.length (Nat.le_refl _)
 rwa [List.take_length] at this
end Go.Proofs.Ytdinepghommchaa.V
