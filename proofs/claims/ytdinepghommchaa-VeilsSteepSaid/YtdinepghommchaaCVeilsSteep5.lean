/- The walks, their words and the pure laws under the claim of VeilsSteep, part: Vf30. -/
import Derived.Test.YtdinepghommchaaCVeilsSteep3
import Derived.Test.YtdinepghommchaaCVeilsSteep1
-- Written by a program of this session over the kit's printer: wip/gp.py.
namespace Go.Proofs.Ytdinepghommchaa.V
open Go.RowKit Go.Proofs.YtdinepghommchaaW.PrintWords Go.Proofs.YtdinepghommchaaW.PrintLast Go.Proofs.YtdinepghommchaaW.PrintMore
attribute [local go_sem] max2_int min2_int max_two min_two max_three min_three max_four min_four   -- for this text's walks alone
set_option linter.unusedVariables false
set_option linter.unusedSimpArgs false

/-! ### veils_Of: function 30 -/
/-- Is a number at the border of a table another one than it should be? -/
def edgeB (n i j x : Int) : Bool := decide ((i = 0 ∧ x ≠ j) ∨ (j = 0 ∧ x ≠ i) ∨ (i = n ∧ x ≠ wrap64 (n - j)) ∨ (j = n ∧ x ≠ wrap64 (n - i)))
mutual
def veils_Of.j0 : Nat → List (List Int) → Int → Bool → Option ((List (List Int)) × Int)
 | 0, _, _, _ => none
 | k + 1, x0, x4, x18 => if x18 = true then (some (([] : List (List Int)), 2)) else (veils_Of.l0 k x0 x4 x0 (x0.length : Int) 0)
def veils_Of.l0 : Nat → List (List Int) → Int → List (List Int) → Int → Int → Option ((List (List Int)) × Int)
 | 0, _, _, _, _, _ => none
 | k + 1, x0, x4, x19, x20, x21 => if x21 < x20 then (if 0 ≤ x21 then (if x21 < (x19.length : Int) then (if ((rd_L1 x19 x21).length : Int) = (wrap64 (x4 + 1)) then (veils_Of.l1 k x0 x4 x21 (rd_L1 x19 x21) x19 x20 x21 (rd_L1 x19 x21) ((rd_L1 x19 x21).length : Int) 0) else (some (([] : List (List Int)), 2))) else (none)) else (none)) else ((veils_of_heights.f x0).bind fun t473 => (some (t473, 0)))
def veils_Of.l1 : Nat → List (List Int) → Int → Int → List Int → List (List Int) → Int → Int → List Int → Int → Int → Option ((List (List Int)) × Int)
 | 0, _, _, _, _, _, _, _, _, _, _ => none
 | k + 1, x0, x4, x5, x6, x19, x20, x21, x31, x32, x33 => if x33 < x32 then (if 0 ≤ x33 then (if x33 < (x31.length : Int) then (if edgeB x4 x5 x33 (rd x31 x33) = true then (some (([] : List (List Int)), 2)) else (if x5 > 0 then (if 0 ≤ (wrap64 (x5 - 1)) then (if (wrap64 (x5 - 1)) < (x0.length : Int) then (if x33 < ((rd_L1 x0 (wrap64 (x5 - 1))).length : Int) then (if (rd x31 x33) = (wrap64 ((rd (rd_L1 x0 (wrap64 (x5 - 1))) x33) + 1)) then (if x33 > 0 then (if 0 ≤ (wrap64 (x33 - 1)) then (if (wrap64 (x33 - 1)) < (x6.length : Int) then (if (rd x31 x33) = (wrap64 ((rd x6 (wrap64 (x33 - 1))) + 1)) then (veils_Of.l1 k x0 x4 x5 x6 x19 x20 x21 x31 x32 (wrap64 (x33 + 1))) else (if (rd x31 x33) = (wrap64 ((rd x6 (wrap64 (x33 - 1))) - 1)) then (veils_Of.l1 k x0 x4 x5 x6 x19 x20 x21 x31 x32 (wrap64 (x33 + 1))) else (some (([] : List (List Int)), 2)))) else (none)) else (none)) else (veils_Of.l1 k x0 x4 x5 x6 x19 x20 x21 x31 x32 (wrap64 (x33 + 1)))) else (if (rd x31 x33) = (wrap64 ((rd (rd_L1 x0 (wrap64 (x5 - 1))) x33) - 1)) then (if x33 > 0 then (if 0 ≤ (wrap64 (x33 - 1)) then (if (wrap64 (x33 - 1)) < (x6.length : Int) then (if (rd x31 x33) = (wrap64 ((rd x6 (wrap64 (x33 - 1))) + 1)) then (veils_Of.l1 k x0 x4 x5 x6 x19 x20 x21 x31 x32 (wrap64 (x33 + 1))) else (if (rd x31 x33) = (wrap64 ((rd x6 (wrap64 (x33 - 1))) - 1)) then (veils_Of.l1 k x0 x4 x5 x6 x19 x20 x21 x31 x32 (wrap64 (x33 + 1))) else (some (([] : List (List Int)), 2)))) else (none)) else (none)) else (veils_Of.l1 k x0 x4 x5 x6 x19 x20 x21 x31 x32 (wrap64 (x33 + 1)))) else (some (([] : List (List Int)), 2)))) else (none)) else (none)) else (none)) else (if x33 > 0 then (if 0 ≤ (wrap64 (x33 - 1)) then (if (wrap64 (x33 - 1)) < (x6.length : Int) then (if (rd x31 x33) = (wrap64 ((rd x6 (wrap64 (x33 - 1))) + 1)) then (veils_Of.l1 k x0 x4 x5 x6 x19 x20 x21 x31 x32 (wrap64 (x33 + 1))) else (if (rd x31 x33) = (wrap64 ((rd x6 (wrap64 (x33 - 1))) - 1)) then (veils_Of.l1 k x0 x4 x5 x6 x19 x20 x21 x31 x32 (wrap64 (x33 + 1))) else (some (([] : List (List Int)), 2)))) else (none)) else (none)) else (veils_Of.l1 k x0 x4 x5 x6 x19 x20 x21 x31 x32 (wrap64 (x33 + 1)))))) else (none)) else (none)) else (veils_Of.l0 k x0 x4 x19 x20 (wrap64 (x21 + 1)))
end
def veils_Of.f (k : Nat) (l0 : List (List Int)) : Option ((List (List Int)) × Int) := if (wrap64 ((l0.length : Int) - 1)) < 1 then (veils_Of.j0 k l0 (wrap64 ((l0.length : Int) - 1)) true) else (veils_Of.j0 k l0 (wrap64 ((l0.length : Int) - 1)) (decide ((wrap64 ((l0.length : Int) - 1)) > 5)))
theorem veils_Of.mono_l : ∀ k, (∀ y0 y1 y2, LeO (veils_Of.j0 k y0 y1 y2) (veils_Of.j0 (k + 1) y0 y1 y2)) ∧ (∀ y0 y1 y2 y3 y4, LeO (veils_Of.l0 k y0 y1 y2 y3 y4) (veils_Of.l0 (k + 1) y0 y1 y2 y3 y4)) ∧ (∀ y0 y1 y2 y3 y4 y5 y6 y7 y8 y9, LeO (veils_Of.l1 k y0 y1 y2 y3 y4 y5 y6 y7 y8 y9) (veils_Of.l1 (k + 1) y0 y1 y2 y3 y4 y5 y6 y7 y8 y9))
 | 0 => ⟨fun _ _ _ r h => by simp [veils_Of.j0] at h, fun _ _ _ _ _ r h => by simp [veils_Of.l0] at h, fun _ _ _ _ _ _ _ _ _ _ r h => by simp [veils_Of.l1] at h⟩
 | k + 1 => by
  obtain ⟨ih0, ih1, ih2⟩ := veils_Of.mono_l k
  refine ⟨?_, ?_, ?_⟩
  · intro y0 y1 y2
    unfold veils_Of.j0
    repeat' first
    | (with_reducible exact ih0 _ _ _)
    | (with_reducible exact ih1 _ _ _ _ _)
    | (with_reducible exact ih2 _ _ _ _ _ _ _ _ _ _)
    | (with_reducible exact LeO.refl _)
    | (with_reducible exact LeO.none _)
    | (with_reducible refine LeO.ite ?_ ?_)
    | (with_reducible refine LeO.bind ?_ (fun _ => ?_))
    | exact ih0 _ _ _
    | exact ih1 _ _ _ _ _
    | exact ih2 _ _ _ _ _ _ _ _ _ _
    | exact LeO.none _
    | refine LeO.ite ?_ ?_
    | refine LeO.bind ?_ (fun _ => ?_)
  · intro y0 y1 y2 y3 y4
    unfold veils_Of.l0
    repeat' first
    | (with_reducible exact ih0 _ _ _)
    | (with_reducible exact ih1 _ _ _ _ _)
    | (with_reducible exact ih2 _ _ _ _ _ _ _ _ _ _)
    | (with_reducible exact LeO.refl _)
    | (with_reducible exact LeO.none _)
    | (with_reducible refine LeO.ite ?_ ?_)
    | (with_reducible refine LeO.bind ?_ (fun _ => ?_))
    | exact ih0 _ _ _
    | exact ih1 _ _ _ _ _
    | exact ih2 _ _ _ _ _ _ _ _ _ _
    | exact LeO.none _
    | refine LeO.ite ?_ ?_
    | refine LeO.bind ?_ (fun _ => ?_)
  · intro y0 y1 y2 y3 y4 y5 y6 y7 y8 y9
    unfold veils_Of.l1
    repeat' first
    | (with_reducible exact ih0 _ _ _)
    | (with_reducible exact ih1 _ _ _ _ _)
    | (with_reducible exact ih2 _ _ _ _ _ _ _ _ _ _)
    | (with_reducible exact LeO.refl _)
    | (with_reducible exact LeO.none _)
    | (with_reducible refine LeO.ite ?_ ?_)
    | (with_reducible refine LeO.bind ?_ (fun _ => ?_))
    | exact ih0 _ _ _
    | exact ih1 _ _ _ _ _
    | exact ih2 _ _ _ _ _ _ _ _ _ _
    | exact LeO.none _
    | refine LeO.ite ?_ ?_
    | refine LeO.bind ?_ (fun _ => ?_)
theorem veils_Of.mono : ∀ a0 k, LeO (veils_Of.f k a0) (veils_Of.f (k + 1) a0) := by
 intro a0 k
 obtain ⟨ih0, ih1, ih2⟩ := veils_Of.mono_l k
 unfold veils_Of.f
 repeat' first
  | (with_reducible exact ih0 _ _ _)
  | (with_reducible exact ih1 _ _ _ _ _)
  | (with_reducible exact ih2 _ _ _ _ _ _ _ _ _ _)
  | (with_reducible exact LeO.refl _)
  | (with_reducible exact LeO.none _)
  | (with_reducible refine LeO.ite ?_ ?_)
  | (with_reducible refine LeO.bind ?_ (fun _ => ?_))
  | exact ih0 _ _ _
  | exact ih1 _ _ _ _ _
  | exact ih2 _ _ _ _ _ _ _ _ _ _
  | exact LeO.none _
  | refine LeO.ite ?_ ?_
  | refine LeO.bind ?_ (fun _ => ?_)
set_option maxHeartbeats 8000000 in
set_option maxRecDepth 100000 in
theorem veils_Of.calls (k : Nat) (A0 : Option Addr) (c0 : Nat) (l0 : List (List Int)) (r1 : List (List Int)) (r2 : Int) (w : World) (hr0 : Kd.C (Kd.slice 3 (Kd.int .i64)) w A0 l0.length l0) (hc0 : l0.length ≤ c0) (h : veils_Of.f k l0 = some (r1, r2)) :
 Calls Try.prog 30 #[.slice A0 l0.length c0] w fun e w' => ∃ v0_ : Value, e = .returned (.tuple #[v0_, .int .i64 r2]) ∧ Kd.S (Kd.slice 3 (Kd.int .i64)) 28 w' w.heap.size (fun _ => True) v0_ r1 ∧ Below w.heap.size w w' := by
 have HR0 := Aside0.mk hr0
 have HC0 := Aside0.mk hc0
 clear hr0 hc0
 have HB := Aside0.mk (Below.refl w.heap.size w)
 have H : (if (wrap64 ((l0.length : Int) - 1)) < 1 then (veils_Of.j0 k l0 (wrap64 ((l0.length : Int) - 1)) true) else (veils_Of.j0 k l0 (wrap64 ((l0.length : Int) - 1)) (decide ((wrap64 ((l0.length : Int) - 1)) > 5)))) = some (r1, r2) := h
 clear h
 have HC2 := Aside0.mk H
 clear H
 go_enter Try.func30, Try.ntmps30
 go_upto_region 2 with (fail)
 go_cut [18] (fun v18 wc => ∃ (kq : Nat) (x18_1 : Bool), v18 = .bool x18_1 ∧ Aside0 (veils_Of.j0 kq l0 (wrap64 ((l0.length : Int) - 1)) x18_1 = some (r1, r2)) ∧ Aside0 (kq ≤ k) ∧ Aside0 (Below w.heap.size w wc))
 case first =>
  have H := HC2.out
  clear HC2
  by_cases c3 : (wrap64 ((l0.length : Int) - 1)) < 1
  · rw [if_pos c3] at H
    have c3b0 : decide ((wrap64 ((l0.length : Int) - 1)) < 1) = true := decide_eq_true c3
    clear c3
    (first | rw [c3b0] | (simp only [i64_w, i32_w]; rw [c3b0]) | skip)
    have H' := Aside0.mk H
    clear H
    go_wp2
    go_meet
    case rel => exact ⟨_, (true), rf_, H', ⟨by first | omega | exact Nat.le_refl _⟩, ⟨bel_⟩⟩
  · rw [if_neg c3] at H
    have c3b0 : decide ((wrap64 ((l0.length : Int) - 1)) < 1) = false := decide_eq_false c3
    clear c3
    (first | rw [c3b0] | (simp only [i64_w, i32_w]; rw [c3b0]) | skip)
    have H' := Aside0.mk H
    clear H
    go_wp2
    go_meet
    case rel => exact ⟨_, (decide ((wrap64 ((l0.length : Int) - 1)) > 5)), rf_, H', ⟨by first | omega | exact Nat.le_refl _⟩, ⟨bel_⟩⟩
 case rest =>
  clear HC2
  try clear p2
  try clear c3
  try clear c3b0
  obtain ⟨kq, x18_1, rfl, HA, HJ1, HB⟩ := hcut
  cases kq with
  | zero => exact absurd HA.out (by simp [veils_Of.j0])
  | succ kj1 =>
    have H := HA.out
    clear HA
    simp only [veils_Of.j0] at H
    by_cases c4 : x18_1 = true
    · subst c4
      have H1 : (some (([] : List (List Int)), 2)) = some (r1, r2) := by rw [if_pos rfl] at H; exact H
      clear H
      have H := H1
      clear H1
      simp only [Option.some.injEq, Prod.mk.injEq] at H
      obtain ⟨rfl, rfl⟩ := H
      go_wp2
      go_ret2
      exact ⟨_, er_, by first | exact Kd.S_nil _ _ _ _ _ | exact Kd.N_nil _ _ _ _ _ | exact Kd.V_nil _ _ _ _ _ | exact Kd.Q_nil _ _ _ _ _ | exact Kd.R_nil _ _ _ _ _, bel_⟩
    · replace c4 := Bool.eq_false_iff.mpr c4
      subst c4
      have H1 : (veils_Of.l0 kj1 l0 (wrap64 ((l0.length : Int) - 1)) l0 (l0.length : Int) 0) = some (r1, r2) := by rw [if_neg (show ¬ (false = true) by decide)] at H; exact H
      clear H
      have H := H1
      clear H1
      have H' := Aside0.mk H
      clear H
      go_wp2
      go_loopg [21] kj1 (fun kq v21 w' => ∃ (x21_2 : Int), v21 = .int .i64 x21_2 ∧ Aside0 (veils_Of.l0 kq l0 (wrap64 ((l0.length : Int) - 1)) l0 (l0.length : Int) x21_2 = some (r1, r2)) ∧ Aside0 (kq ≤ kj1) ∧ Aside0 (Below w.heap.size w w'))
      case atStart => exact ⟨(0), rf_, H', ⟨Nat.le_refl _⟩, ⟨bel_⟩⟩
      case round => as_aux_lemma =>
       clear H'
       try clear p2
       try clear c3
       try clear c3b0
       try clear c4
       try clear p2
       obtain ⟨x21_2, rfl, HA, HK2, HB⟩ := hrel
       cases gk with
       | zero => exact absurd HA.out (by simp [veils_Of.l0])
       | succ k2 =>
        have H := HA.out
        clear HA
        simp only [veils_Of.l0] at H
        by_cases c5 : x21_2 < (l0.length : Int)
        · rw [if_pos c5] at H
          have c5b0 : decide (x21_2 < (l0.length : Int)) = true := decide_eq_true c5
          clear c5
          by_cases c6 : 0 ≤ x21_2
          · rw [if_pos c6] at H
            have c6b0 : decide (0 ≤ x21_2) = true := decide_eq_true c6
            clear c6
            by_cases c7 : x21_2 < (l0.length : Int)
            · rw [if_pos c7] at H
              have c7b0 : decide (x21_2 < (l0.length : Int)) = true := decide_eq_true c7
              clear c7
              by_cases c8 : ((rd_L1 l0 x21_2).length : Int) = (wrap64 ((wrap64 ((l0.length : Int) - 1)) + 1))
              · rw [if_pos c8] at H
                have c8b0 : (((rd_L1 l0 x21_2).length : Int) == (wrap64 ((wrap64 ((l0.length : Int) - 1)) + 1))) = true := beq_iff_eq.mpr c8
                have c8b1 : (((rd_L1 l0 x21_2).length : Int) != (wrap64 ((wrap64 ((l0.length : Int) - 1)) + 1))) = false := bne_eq_false_iff_eq.mpr c8
                clear c8
                have H' := Aside0.mk H
                clear H
                obtain ⟨ad476, A476_0, c476_0, e476, hx476_0, HC476_0, HR476_0, p476, q476⟩ := al_ HR0.out x21_2
                cases e476
                replace hx476_0 := (HB.out.cell (World.block_lt_of_cell? w _ hx476_0)).trans hx476_0
                go_wp2
                go_loopg [33] k2 (fun kq v33 w' => ∃ (x33_3 : Int), v33 = .int .i64 x33_3 ∧ Aside0 (veils_Of.l1 kq l0 (wrap64 ((l0.length : Int) - 1)) x21_2 (rd_L1 l0 x21_2) l0 (l0.length : Int) x21_2 (rd_L1 l0 x21_2) ((rd_L1 l0 x21_2).length : Int) x33_3 = some (r1, r2)) ∧ Aside0 (kq ≤ k2) ∧ Aside0 (Below w.heap.size w w'))
                case atStart => exact ⟨(0), rf_, H', ⟨Nat.le_refl _⟩, ⟨bel_⟩⟩
                case round => as_aux_lemma =>
                 clear H'
                 try clear p2
                 try clear c3
                 try clear c3b0
                 try clear c4
                 try clear p4
                 try clear q4
                 try clear hx4
                 try clear c5
                 try clear c5b0
                 try clear c6
                 try clear c6b0
                 try clear p6
                 try clear c7
                 try clear c7b0
                 try clear c8
                 try clear c8b0
                 try clear c8b1
                 try clear hx476_0
                 try clear p2
                 try clear p476
                 try clear q476
                 obtain ⟨x33_3, rfl, HA, HK3, HB⟩ := hrel
                 cases gk with
                 | zero => exact absurd HA.out (by simp [veils_Of.l1])
                 | succ k3 =>
                  have H := HA.out
                  clear HA
                  simp only [veils_Of.l1] at H
                  by_cases c9 : x33_3 < ((rd_L1 l0 x21_2).length : Int)
                  · rw [if_pos c9] at H
                    have c9b0 : decide (x33_3 < ((rd_L1 l0 x21_2).length : Int)) = true := decide_eq_true c9
                    clear c9
                    by_cases c10 : 0 ≤ x33_3
                    · rw [if_pos c10] at H
                      have c10b0 : decide (0 ≤ x33_3) = true := decide_eq_true c10
                      clear c10
                      by_cases c11 : x33_3 < ((rd_L1 l0 x21_2).length : Int)
                      · rw [if_pos c11] at H
                        have c11b0 : decide (x33_3 < ((rd_L1 l0 x21_2).length : Int)) = true := decide_eq_true c11
                        clear c11
                        obtain ⟨ad477, e477, hx477_0, p477, q477⟩ := ai_ HR476_0.out x33_3
                        cases e477
                        replace hx477_0 := (HB.out.cell (World.block_lt_of_cell? w _ hx477_0)).trans hx477_0
                        go_upto_region 12 with (fail)
                        go_cut [9] (fun v9 wc => ∃ b9 : Bool, v9 = .bool b9 ∧ Aside0 (b9 = edgeB (wrap64 ((l0.length : Int) - 1)) x21_2 x33_3 (rd (rd_L1 l0 x21_2) x33_3)) ∧ Aside0 (Below w.heap.size w wc))
                        case first => as_aux_lemma =>
                         clear H
                         obtain ⟨xE, hxE⟩ : ∃ x_ : Int, rd (rd_L1 l0 x21_2) x33_3 = x_ := ⟨_, rfl⟩
                         obtain ⟨nE, hnE⟩ : ∃ x_ : Int, wrap64 ((l0.length : Int) - 1) = x_ := ⟨_, rfl⟩
                         obtain ⟨nj, hnj⟩ : ∃ x_ : Int, wrap64 (nE - x33_3) = x_ := ⟨_, rfl⟩
                         obtain ⟨ni, hni⟩ : ∃ x_ : Int, wrap64 (nE - x21_2) = x_ := ⟨_, rfl⟩
                         have hnjw : (IntKind.i64.wrap (nE - x33_3)) = nj := (i64_w _).trans hnj
                         have hniw : (IntKind.i64.wrap (nE - x21_2)) = ni := (i64_w _).trans hni
                         have HX := Aside0.mk hxE
                         have HN := Aside0.mk hnE
                         have HJ_ := Aside0.mk hnj
                         have HI_ := Aside0.mk hni
                         by_cases e1 : x21_2 = 0
                         · have e1h := Aside0.mk e1
                           have e1b0 : (x21_2 == 0) = true := beq_iff_eq.mpr e1
                           have e1b1 : (x21_2 != 0) = false := bne_eq_false_iff_eq.mpr e1
                           clear e1
                           by_cases e2 : xE = x33_3
                           · have e2h := Aside0.mk e2
                             have e2b0 : (xE == x33_3) = true := beq_iff_eq.mpr e2
                             have e2b1 : (xE != x33_3) = false := bne_eq_false_iff_eq.mpr e2
                             clear e2
                             by_cases e3 : x33_3 = 0
                             · have e3h := Aside0.mk e3
                               have e3b0 : (x33_3 == 0) = true := beq_iff_eq.mpr e3
                               have e3b1 : (x33_3 != 0) = false := bne_eq_false_iff_eq.mpr e3
                               clear e3
                               by_cases e4 : xE = x21_2
                               · have e4h := Aside0.mk e4
                                 have e4b0 : (xE == x21_2) = true := beq_iff_eq.mpr e4
                                 have e4b1 : (xE != x21_2) = false := bne_eq_false_iff_eq.mpr e4
                                 clear e4
                                 by_cases e5 : x21_2 = nE
                                 · have e5h := Aside0.mk e5
                                   have e5b0 : (x21_2 == nE) = true := beq_iff_eq.mpr e5
                                   have e5b1 : (x21_2 != nE) = false := bne_eq_false_iff_eq.mpr e5
                                   clear e5
                                   by_cases e6 : xE = nj
                                   · have e6h := Aside0.mk e6
                                     have e6b0 : (xE == nj) = true := beq_iff_eq.mpr e6
                                     have e6b1 : (xE != nj) = false := bne_eq_false_iff_eq.mpr e6
                                     clear e6
                                     by_cases e7 : x33_3 = nE
                                     · have e7h := Aside0.mk e7
                                       have e7b0 : (x33_3 == nE) = true := beq_iff_eq.mpr e7
                                       have e7b1 : (x33_3 != nE) = false := bne_eq_false_iff_eq.mpr e7
                                       clear e7
                                       by_cases e8 : xE = ni
                                       · have e8h := Aside0.mk e8
                                         have e8b0 : (xE == ni) = true := beq_iff_eq.mpr e8
                                         have e8b1 : (xE != ni) = false := bne_eq_false_iff_eq.mpr e8
                                         clear e8
                                         go_wp2
                                         repeat (go_quiet (fail); try go_wp2)
                                         go_meet
                                         case rel => exact ⟨false, rfl, ⟨by have e1q := e1h.out; have e2q := e2h.out; have e3q := e3h.out; have e4q := e4h.out; have e5q := e5h.out; have e6q := e6h.out; have e7q := e7h.out; have e8q := e8h.out; unfold edgeB; rw [HN.out, HX.out]; rw [HJ_.out, HI_.out]; exact (decide_eq_false (by omega)).symm⟩, ⟨bel_⟩⟩
                                       · have e8h := Aside0.mk e8
                                         have e8b0 : (xE == ni) = false := beq_eq_false_iff_ne.mpr e8
                                         have e8b1 : (xE != ni) = true := bne_iff_ne.mpr e8
                                         clear e8
                                         go_wp2
                                         repeat (go_quiet (fail); try go_wp2)
                                         go_meet
                                         case rel => exact ⟨true, rfl, ⟨by have e1q := e1h.out; have e2q := e2h.out; have e3q := e3h.out; have e4q := e4h.out; have e5q := e5h.out; have e6q := e6h.out; have e7q := e7h.out; have e8q := e8h.out; unfold edgeB; rw [HN.out, HX.out]; rw [HJ_.out, HI_.out]; exact (decide_eq_true (by omega)).symm⟩, ⟨bel_⟩⟩
                                     · have e7h := Aside0.mk e7
                                       have e7b0 : (x33_3 == nE) = false := beq_eq_false_iff_ne.mpr e7
                                       have e7b1 : (x33_3 != nE) = true := bne_iff_ne.mpr e7
                                       clear e7
                                       go_wp2
                                       repeat (go_quiet (fail); try go_wp2)
                                       go_meet
                                       case rel => exact ⟨false, rfl, ⟨by have e1q := e1h.out; have e2q := e2h.out; have e3q := e3h.out; have e4q := e4h.out; have e5q := e5h.out; have e6q := e6h.out; have e7q := e7h.out; unfold edgeB; rw [HN.out, HX.out]; rw [HJ_.out, HI_.out]; exact (decide_eq_false (by omega)).symm⟩, ⟨bel_⟩⟩
                                   · have e6h := Aside0.mk e6
                                     have e6b0 : (xE == nj) = false := beq_eq_false_iff_ne.mpr e6
                                     have e6b1 : (xE != nj) = true := bne_iff_ne.mpr e6
                                     clear e6
                                     go_wp2
                                     repeat (go_quiet (fail); try go_wp2)
                                     go_meet
                                     case rel => exact ⟨true, rfl, ⟨by have e1q := e1h.out; have e2q := e2h.out; have e3q := e3h.out; have e4q := e4h.out; have e5q := e5h.out; have e6q := e6h.out; unfold edgeB; rw [HN.out, HX.out]; rw [HJ_.out, HI_.out]; exact (decide_eq_true (by omega)).symm⟩, ⟨bel_⟩⟩
                                 · have e5h := Aside0.mk e5
                                   have e5b0 : (x21_2 == nE) = false := beq_eq_false_iff_ne.mpr e5
                                   have e5b1 : (x21_2 != nE) = true := bne_iff_ne.mpr e5
                                   clear e5
                                   by_cases e9 : x33_3 = nE
                                   · have e9h := Aside0.mk e9
                                     have e9b0 : (x33_3 == nE) = true := beq_iff_eq.mpr e9
                                     have e9b1 : (x33_3 != nE) = false := bne_eq_false_iff_eq.mpr e9
                                     clear e9
                                     by_cases e10 : xE = ni
                                     · have e10h := Aside0.mk e10
                                       have e10b0 : (xE == ni) = true := beq_iff_eq.mpr e10
                                       have e10b1 : (xE != ni) = false := bne_eq_false_iff_eq.mpr e10
                                       clear e10
                                       go_wp2
                                       repeat (go_quiet (fail); try go_wp2)
                                       go_meet
                                       case rel => exact ⟨false, rfl, ⟨by have e1q := e1h.out; have e2q := e2h.out; have e3q := e3h.out; have e4q := e4h.out; have e5q := e5h.out; have e9q := e9h.out; have e10q := e10h.out; unfold edgeB; rw [HN.out, HX.out]; rw [HJ_.out, HI_.out]; exact (decide_eq_false (by omega)).symm⟩, ⟨bel_⟩⟩
                                     · have e10h := Aside0.mk e10
                                       have e10b0 : (xE == ni) = false := beq_eq_false_iff_ne.mpr e10
                                       have e10b1 : (xE != ni) = true := bne_iff_ne.mpr e10
                                       clear e10
                                       go_wp2
                                       repeat (go_quiet (fail); try go_wp2)
                                       go_meet
                                       case rel => exact ⟨true, rfl, ⟨by have e1q := e1h.out; have e2q := e2h.out; have e3q := e3h.out; have e4q := e4h.out; have e5q := e5h.out; have e9q := e9h.out; have e10q := e10h.out; unfold edgeB; rw [HN.out, HX.out]; rw [HJ_.out, HI_.out]; exact (decide_eq_true (by omega)).symm⟩, ⟨bel_⟩⟩
                                   · have e9h := Aside0.mk e9
                                     have e9b0 : (x33_3 == nE) = false := beq_eq_false_iff_ne.mpr e9
                                     have e9b1 : (x33_3 != nE) = true := bne_iff_ne.mpr e9
                                     clear e9
                                     go_wp2
                                     repeat (go_quiet (fail); try go_wp2)
                                     go_meet
                                     case rel => exact ⟨false, rfl, ⟨by have e1q := e1h.out; have e2q := e2h.out; have e3q := e3h.out; have e4q := e4h.out; have e5q := e5h.out; have e9q := e9h.out; unfold edgeB; rw [HN.out, HX.out]; rw [HJ_.out, HI_.out]; exact (decide_eq_false (by omega)).symm⟩, ⟨bel_⟩⟩
                               · have e4h := Aside0.mk e4
                                 have e4b0 : (xE == x21_2) = false := beq_eq_false_iff_ne.mpr e4
                                 have e4b1 : (xE != x21_2) = true := bne_iff_ne.mpr e4
                                 clear e4
                                 go_wp2
                                 repeat (go_quiet (fail); try go_wp2)
                                 go_meet
                                 case rel => exact ⟨true, rfl, ⟨by have e1q := e1h.out; have e2q := e2h.out; have e3q := e3h.out; have e4q := e4h.out; unfold edgeB; rw [HN.out, HX.out]; rw [HJ_.out, HI_.out]; exact (decide_eq_true (by omega)).symm⟩, ⟨bel_⟩⟩
                             · have e3h := Aside0.mk e3
                               have e3b0 : (x33_3 == 0) = false := beq_eq_false_iff_ne.mpr e3
                               have e3b1 : (x33_3 != 0) = true := bne_iff_ne.mpr e3
                               clear e3
                               by_cases e11 : x21_2 = nE
                               · have e11h := Aside0.mk e11
                                 have e11b0 : (x21_2 == nE) = true := beq_iff_eq.mpr e11
                                 have e11b1 : (x21_2 != nE) = false := bne_eq_false_iff_eq.mpr e11
                                 clear e11
                                 by_cases e12 : xE = nj
                                 · have e12h := Aside0.mk e12
                                   have e12b0 : (xE == nj) = true := beq_iff_eq.mpr e12
                                   have e12b1 : (xE != nj) = false := bne_eq_false_iff_eq.mpr e12
                                   clear e12
                                   by_cases e13 : x33_3 = nE
                                   · have e13h := Aside0.mk e13
                                     have e13b0 : (x33_3 == nE) = true := beq_iff_eq.mpr e13
                                     have e13b1 : (x33_3 != nE) = false := bne_eq_false_iff_eq.mpr e13
                                     clear e13
                                     by_cases e14 : xE = ni
                                     · have e14h := Aside0.mk e14
                                       have e14b0 : (xE == ni) = true := beq_iff_eq.mpr e14
                                       have e14b1 : (xE != ni) = false := bne_eq_false_iff_eq.mpr e14
                                       clear e14
                                       go_wp2
                                       repeat (go_quiet (fail); try go_wp2)
                                       go_meet
                                       case rel => exact ⟨false, rfl, ⟨by have e1q := e1h.out; have e2q := e2h.out; have e3q := e3h.out; have e11q := e11h.out; have e12q := e12h.out; have e13q := e13h.out; have e14q := e14h.out; unfold edgeB; rw [HN.out, HX.out]; rw [HJ_.out, HI_.out]; exact (decide_eq_false (by omega)).symm⟩, ⟨bel_⟩⟩
                                     · have e14h := Aside0.mk e14
                                       have e14b0 : (xE == ni) = false := beq_eq_false_iff_ne.mpr e14
                                       have e14b1 : (xE != ni) = true := bne_iff_ne.mpr e14
                                       clear e14
                                       go_wp2
                                       repeat (go_quiet (fail); try go_wp2)
                                       go_meet
                                       case rel => exact ⟨true, rfl, ⟨by have e1q := e1h.out; have e2q := e2h.out; have e3q := e3h.out; have e11q := e11h.out; have e12q := e12h.out; have e13q := e13h.out; have e14q := e14h.out; unfold edgeB; rw [HN.out, HX.out]; rw [HJ_.out, HI_.out]; exact (decide_eq_true (by omega)).symm⟩, ⟨bel_⟩⟩
                                   · have e13h := Aside0.mk e13
                                     have e13b0 : (x33_3 == nE) = false := beq_eq_false_iff_ne.mpr e13
                                     have e13b1 : (x33_3 != nE) = true := bne_iff_ne.mpr e13
                                     clear e13
                                     go_wp2
                                     repeat (go_quiet (fail); try go_wp2)
                                     go_meet
                                     case rel => exact ⟨false, rfl, ⟨by have e1q := e1h.out; have e2q := e2h.out; have e3q := e3h.out; have e11q := e11h.out; have e12q := e12h.out; have e13q := e13h.out; unfold edgeB; rw [HN.out, HX.out]; rw [HJ_.out, HI_.out]; exact (decide_eq_false (by omega)).symm⟩, ⟨bel_⟩⟩
                                 · have e12h := Aside0.mk e12
                                   have e12b0 : (xE == nj) = false := beq_eq_false_iff_ne.mpr e12
                                   have e12b1 : (xE != nj) = true := bne_iff_ne.mpr e12
                                   clear e12
                                   go_wp2
                                   repeat (go_quiet (fail); try go_wp2)
                                   go_meet
                                   case rel => exact ⟨true, rfl, ⟨by have e1q := e1h.out; have e2q := e2h.out; have e3q := e3h.out; have e11q := e11h.out; have e12q := e12h.out; unfold edgeB; rw [HN.out, HX.out]; rw [HJ_.out, HI_.out]; exact (decide_eq_true (by omega)).symm⟩, ⟨bel_⟩⟩
                               · have e11h := Aside0.mk e11
                                 have e11b0 : (x21_2 == nE) = false := beq_eq_false_iff_ne.mpr e11
                                 have e11b1 : (x21_2 != nE) = true := bne_iff_ne.mpr e11
                                 clear e11
                                 by_cases e15 : x33_3 = nE
                                 · have e15h := Aside0.mk e15
                                   have e15b0 : (x33_3 == nE) = true := beq_iff_eq.mpr e15
                                   have e15b1 : (x33_3 != nE) = false := bne_eq_false_iff_eq.mpr e15
                                   clear e15
                                   by_cases e16 : xE = ni
                                   · have e16h := Aside0.mk e16
                                     have e16b0 : (xE == ni) = true := beq_iff_eq.mpr e16
                                     have e16b1 : (xE != ni) = false := bne_eq_false_iff_eq.mpr e16
                                     clear e16
                                     go_wp2
                                     repeat (go_quiet (fail); try go_wp2)
                                     go_meet
                                     case rel => exact ⟨false, rfl, ⟨by have e1q := e1h.out; have e2q := e2h.out; have e3q := e3h.out; have e11q := e11h.out; have e15q := e15h.out; have e16q := e16h.out; unfold edgeB; rw [HN.out, HX.out]; rw [HJ_.out, HI_.out]; exact (decide_eq_false (by omega)).symm⟩, ⟨bel_⟩⟩
                                   · have e16h := Aside0.mk e16
                                     have e16b0 : (xE == ni) = false := beq_eq_false_iff_ne.mpr e16
                                     have e16b1 : (xE != ni) = true := bne_iff_ne.mpr e16
                                     clear e16
                                     go_wp2
                                     repeat (go_quiet (fail); try go_wp2)
                                     go_meet
                                     case rel => exact ⟨true, rfl, ⟨by have e1q := e1h.out; have e2q := e2h.out; have e3q := e3h.out; have e11q := e11h.out; have e15q := e15h.out; have e16q := e16h.out; unfold edgeB; rw [HN.out, HX.out]; rw [HJ_.out, HI_.out]; exact (decide_eq_true (by omega)).symm⟩, ⟨bel_⟩⟩
                                 · have e15h := Aside0.mk e15
                                   have e15b0 : (x33_3 == nE) = false := beq_eq_false_iff_ne.mpr e15
                                   have e15b1 : (x33_3 != nE) = true := bne_iff_ne.mpr e15
                                   clear e15
                                   go_wp2
                                   repeat (go_quiet (fail); try go_wp2)
                                   go_meet
                                   case rel => exact ⟨false, rfl, ⟨by have e1q := e1h.out; have e2q := e2h.out; have e3q := e3h.out; have e11q := e11h.out; have e15q := e15h.out; unfold edgeB; rw [HN.out, HX.out]; rw [HJ_.out, HI_.out]; exact (decide_eq_false (by omega)).symm⟩, ⟨bel_⟩⟩
                           · have e2h := Aside0.mk e2
                             have e2b0 : (xE == x33_3) = false := beq_eq_false_iff_ne.mpr e2
                             have e2b1 : (xE != x33_3) = true := bne_iff_ne.mpr e2
                             clear e2
                             go_wp2
                             repeat (go_quiet (fail); try go_wp2)
                             go_meet
                             case rel => exact ⟨true, rfl, ⟨by have e1q := e1h.out; have e2q := e2h.out; unfold edgeB; rw [HN.out, HX.out]; rw [HJ_.out, HI_.out]; exact (decide_eq_true (by omega)).symm⟩, ⟨bel_⟩⟩
                         · have e1h := Aside0.mk e1
                           have e1b0 : (x21_2 == 0) = false := beq_eq_false_iff_ne.mpr e1
                           have e1b1 : (x21_2 != 0) = true := bne_iff_ne.mpr e1
                           clear e1
                           by_cases e17 : x33_3 = 0
                           · have e17h := Aside0.mk e17
                             have e17b0 : (x33_3 == 0) = true := beq_iff_eq.mpr e17
                             have e17b1 : (x33_3 != 0) = false := bne_eq_false_iff_eq.mpr e17
                             clear e17
                             by_cases e18 : xE = x21_2
                             · have e18h := Aside0.mk e18
                               have e18b0 : (xE == x21_2) = true := beq_iff_eq.mpr e18
                               have e18b1 : (xE != x21_2) = false := bne_eq_false_iff_eq.mpr e18
                               clear e18
                               by_cases e19 : x21_2 = nE
                               · have e19h := Aside0.mk e19
                                 have e19b0 : (x21_2 == nE) = true := beq_iff_eq.mpr e19
                                 have e19b1 : (x21_2 != nE) = false := bne_eq_false_iff_eq.mpr e19
                                 clear e19
                                 by_cases e20 : xE = nj
                                 · have e20h := Aside0.mk e20
                                   have e20b0 : (xE == nj) = true := beq_iff_eq.mpr e20
                                   have e20b1 : (xE != nj) = false := bne_eq_false_iff_eq.mpr e20
                                   clear e20
                                   by_cases e21 : x33_3 = nE
                                   · have e21h := Aside0.mk e21
                                     have e21b0 : (x33_3 == nE) = true := beq_iff_eq.mpr e21
                                     have e21b1 : (x33_3 != nE) = false := bne_eq_false_iff_eq.mpr e21
                                     clear e21
                                     by_cases e22 : xE = ni
                                     · have e22h := Aside0.mk e22
                                       have e22b0 : (xE == ni) = true := beq_iff_eq.mpr e22
                                       have e22b1 : (xE != ni) = false := bne_eq_false_iff_eq.mpr e22
                                       clear e22
                                       go_wp2
                                       repeat (go_quiet (fail); try go_wp2)
                                       go_meet
                                       case rel => exact ⟨false, rfl, ⟨by have e1q := e1h.out; have e17q := e17h.out; have e18q := e18h.out; have e19q := e19h.out; have e20q := e20h.out; have e21q := e21h.out; have e22q := e22h.out; unfold edgeB; rw [HN.out, HX.out]; rw [HJ_.out, HI_.out]; exact (decide_eq_false (by omega)).symm⟩, ⟨bel_⟩⟩
                                     · have e22h := Aside0.mk e22
                                       have e22b0 : (xE == ni) = false := beq_eq_false_iff_ne.mpr e22
                                       have e22b1 : (xE != ni) = true := bne_iff_ne.mpr e22
                                       clear e22
                                       go_wp2
                                       repeat (go_quiet (fail); try go_wp2)
                                       go_meet
                                       case rel => exact ⟨true, rfl, ⟨by have e1q := e1h.out; have e17q := e17h.out; have e18q := e18h.out; have e19q := e19h.out; have e20q := e20h.out; have e21q := e21h.out; have e22q := e22h.out; unfold edgeB; rw [HN.out, HX.out]; rw [HJ_.out, HI_.out]; exact (decide_eq_true (by omega)).symm⟩, ⟨bel_⟩⟩
                                   · have e21h := Aside0.mk e21
                                     have e21b0 : (x33_3 == nE) = false := beq_eq_false_iff_ne.mpr e21
                                     have e21b1 : (x33_3 != nE) = true := bne_iff_ne.mpr e21
                                     clear e21
                                     go_wp2
                                     repeat (go_quiet (fail); try go_wp2)
                                     go_meet
                                     case rel => exact ⟨false, rfl, ⟨by have e1q := e1h.out; have e17q := e17h.out; have e18q := e18h.out; have e19q := e19h.out; have e20q := e20h.out; have e21q := e21h.out; unfold edgeB; rw [HN.out, HX.out]; rw [HJ_.out, HI_.out]; exact (decide_eq_false (by omega)).symm⟩, ⟨bel_⟩⟩
                                 · have e20h := Aside0.mk e20
                                   have e20b0 : (xE == nj) = false := beq_eq_false_iff_ne.mpr e20
                                   have e20b1 : (xE != nj) = true := bne_iff_ne.mpr e20
                                   clear e20
                                   go_wp2
                                   repeat (go_quiet (fail); try go_wp2)
                                   go_meet
                                   case rel => exact ⟨true, rfl, ⟨by have e1q := e1h.out; have e17q := e17h.out; have e18q := e18h.out; have e19q := e19h.out; have e20q := e20h.out; unfold edgeB; rw [HN.out, HX.out]; rw [HJ_.out, HI_.out]; exact (decide_eq_true (by omega)).symm⟩, ⟨bel_⟩⟩
                               · have e19h := Aside0.mk e19
                                 have e19b0 : (x21_2 == nE) = false := beq_eq_false_iff_ne.mpr e19
                                 have e19b1 : (x21_2 != nE) = true := bne_iff_ne.mpr e19
                                 clear e19
                                 by_cases e23 : x33_3 = nE
                                 · have e23h := Aside0.mk e23
                                   have e23b0 : (x33_3 == nE) = true := beq_iff_eq.mpr e23
                                   have e23b1 : (x33_3 != nE) = false := bne_eq_false_iff_eq.mpr e23
                                   clear e23
                                   by_cases e24 : xE = ni
                                   · have e24h := Aside0.mk e24
                                     have e24b0 : (xE == ni) = true := beq_iff_eq.mpr e24
                                     have e24b1 : (xE != ni) = false := bne_eq_false_iff_eq.mpr e24
                                     clear e24
                                     go_wp2
                                     repeat (go_quiet (fail); try go_wp2)
                                     go_meet
                                     case rel => exact ⟨false, rfl, ⟨by have e1q := e1h.out; have e17q := e17h.out; have e18q := e18h.out; have e19q := e19h.out; have e23q := e23h.out; have e24q := e24h.out; unfold edgeB; rw [HN.out, HX.out]; rw [HJ_.out, HI_.out]; exact (decide_eq_false (by omega)).symm⟩, ⟨bel_⟩⟩
                                   · have e24h := Aside0.mk e24
                                     have e24b0 : (xE == ni) = false := beq_eq_false_iff_ne.mpr e24
                                     have e24b1 : (xE != ni) = true := bne_iff_ne.mpr e24
                                     clear e24
                                     go_wp2
                                     repeat (go_quiet (fail); try go_wp2)
                                     go_meet
                                     case rel => exact ⟨true, rfl, ⟨by have e1q := e1h.out; have e17q := e17h.out; have e18q := e18h.out; have e19q := e19h.out; have e23q := e23h.out; have e24q := e24h.out; unfold edgeB; rw [HN.out, HX.out]; rw [HJ_.out, HI_.out]; exact (decide_eq_true (by omega)).symm⟩, ⟨bel_⟩⟩
                                 · have e23h := Aside0.mk e23
                                   have e23b0 : (x33_3 == nE) = false := beq_eq_false_iff_ne.mpr e23
                                   have e23b1 : (x33_3 != nE) = true := bne_iff_ne.mpr e23
                                   clear e23
                                   go_wp2
                                   repeat (go_quiet (fail); try go_wp2)
                                   go_meet
                                   case rel => exact ⟨false, rfl, ⟨by have e1q := e1h.out; have e17q := e17h.out; have e18q := e18h.out; have e19q := e19h.out; have e23q := e23h.out; unfold edgeB; rw [HN.out, HX.out]; rw [HJ_.out, HI_.out]; exact (decide_eq_false (by omega)).symm⟩, ⟨bel_⟩⟩
                             · have e18h := Aside0.mk e18
                               have e18b0 : (xE == x21_2) = false := beq_eq_false_iff_ne.mpr e18
                               have e18b1 : (xE != x21_2) = true := bne_iff_ne.mpr e18
                               clear e18
                               go_wp2
                               repeat (go_quiet (fail); try go_wp2)
                               go_meet
                               case rel => exact ⟨true, rfl, ⟨by have e1q := e1h.out; have e17q := e17h.out; have e18q := e18h.out; unfold edgeB; rw [HN.out, HX.out]; rw [HJ_.out, HI_.out]; exact (decide_eq_true (by omega)).symm⟩, ⟨bel_⟩⟩
                           · have e17h := Aside0.mk e17
                             have e17b0 : (x33_3 == 0) = false := beq_eq_false_iff_ne.mpr e17
                             have e17b1 : (x33_3 != 0) = true := bne_iff_ne.mpr e17
                             clear e17
                             by_cases e25 : x21_2 = nE
                             · have e25h := Aside0.mk e25
                               have e25b0 : (x21_2 == nE) = true := beq_iff_eq.mpr e25
                               have e25b1 : (x21_2 != nE) = false := bne_eq_false_iff_eq.mpr e25
                               clear e25
                               by_cases e26 : xE = nj
                               · have e26h := Aside0.mk e26
                                 have e26b0 : (xE == nj) = true := beq_iff_eq.mpr e26
                                 have e26b1 : (xE != nj) = false := bne_eq_false_iff_eq.mpr e26
                                 clear e26
                                 by_cases e27 : x33_3 = nE
                                 · have e27h := Aside0.mk e27
                                   have e27b0 : (x33_3 == nE) = true := beq_iff_eq.mpr e27
                                   have e27b1 : (x33_3 != nE) = false := bne_eq_false_iff_eq.mpr e27
                                   clear e27
                                   by_cases e28 : xE = ni
                                   · have e28h := Aside0.mk e28
                                     have e28b0 : (xE == ni) = true := beq_iff_eq.mpr e28
                                     have e28b1 : (xE != ni) = false := bne_eq_false_iff_eq.mpr e28
                                     clear e28
                                     go_wp2
                                     repeat (go_quiet (fail); try go_wp2)
                                     go_meet
                                     case rel => exact ⟨false, rfl, ⟨by have e1q := e1h.out; have e17q := e17h.out; have e25q := e25h.out; have e26q := e26h.out; have e27q := e27h.out; have e28q := e28h.out; unfold edgeB; rw [HN.out, HX.out]; rw [HJ_.out, HI_.out]; exact (decide_eq_false (by omega)).symm⟩, ⟨bel_⟩⟩
                                   · have e28h := Aside0.mk e28
                                     have e28b0 : (xE == ni) = false := beq_eq_false_iff_ne.mpr e28
                                     have e28b1 : (xE != ni) = true := bne_iff_ne.mpr e28
                                     clear e28
                                     go_wp2
                                     repeat (go_quiet (fail); try go_wp2)
                                     go_meet
                                     case rel => exact ⟨true, rfl, ⟨by have e1q := e1h.out; have e17q := e17h.out; have e25q := e25h.out; have e26q := e26h.out; have e27q := e27h.out; have e28q := e28h.out; unfold edgeB; rw [HN.out, HX.out]; rw [HJ_.out, HI_.out]; exact (decide_eq_true (by omega)).symm⟩, ⟨bel_⟩⟩
                                 · have e27h := Aside0.mk e27
                                   have e27b0 : (x33_3 == nE) = false := beq_eq_false_iff_ne.mpr e27
                                   have e27b1 : (x33_3 != nE) = true := bne_iff_ne.mpr e27
                                   clear e27
                                   go_wp2
                                   repeat (go_quiet (fail); try go_wp2)
                                   go_meet
                                   case rel => exact ⟨false, rfl, ⟨by have e1q := e1h.out; have e17q := e17h.out; have e25q := e25h.out; have e26q := e26h.out; have e27q := e27h.out; unfold edgeB; rw [HN.out, HX.out]; rw [HJ_.out, HI_.out]; exact (decide_eq_false (by omega)).symm⟩, ⟨bel_⟩⟩
                               · have e26h := Aside0.mk e26
                                 have e26b0 : (xE == nj) = false := beq_eq_false_iff_ne.mpr e26
                                 have e26b1 : (xE != nj) = true := bne_iff_ne.mpr e26
                                 clear e26
                                 go_wp2
                                 repeat (go_quiet (fail); try go_wp2)
                                 go_meet
                                 case rel => exact ⟨true, rfl, ⟨by have e1q := e1h.out; have e17q := e17h.out; have e25q := e25h.out; have e26q := e26h.out; unfold edgeB; rw [HN.out, HX.out]; rw [HJ_.out, HI_.out]; exact (decide_eq_true (by omega)).symm⟩, ⟨bel_⟩⟩
                             · have e25h := Aside0.mk e25
                               have e25b0 : (x21_2 == nE) = false := beq_eq_false_iff_ne.mpr e25
                               have e25b1 : (x21_2 != nE) = true := bne_iff_ne.mpr e25
                               clear e25
                               by_cases e29 : x33_3 = nE
                               · have e29h := Aside0.mk e29
                                 have e29b0 : (x33_3 == nE) = true := beq_iff_eq.mpr e29
                                 have e29b1 : (x33_3 != nE) = false := bne_eq_false_iff_eq.mpr e29
                                 clear e29
                                 by_cases e30 : xE = ni
                                 · have e30h := Aside0.mk e30
                                   have e30b0 : (xE == ni) = true := beq_iff_eq.mpr e30
                                   have e30b1 : (xE != ni) = false := bne_eq_false_iff_eq.mpr e30
                                   clear e30
                                   go_wp2
                                   repeat (go_quiet (fail); try go_wp2)
                                   go_meet
                                   case rel => exact ⟨false, rfl, ⟨by have e1q := e1h.out; have e17q := e17h.out; have e25q := e25h.out; have e29q := e29h.out; have e30q := e30h.out; unfold edgeB; rw [HN.out, HX.out]; rw [HJ_.out, HI_.out]; exact (decide_eq_false (by omega)).symm⟩, ⟨bel_⟩⟩
                                 · have e30h := Aside0.mk e30
                                   have e30b0 : (xE == ni) = false := beq_eq_false_iff_ne.mpr e30
                                   have e30b1 : (xE != ni) = true := bne_iff_ne.mpr e30
                                   clear e30
                                   go_wp2
                                   repeat (go_quiet (fail); try go_wp2)
                                   go_meet
                                   case rel => exact ⟨true, rfl, ⟨by have e1q := e1h.out; have e17q := e17h.out; have e25q := e25h.out; have e29q := e29h.out; have e30q := e30h.out; unfold edgeB; rw [HN.out, HX.out]; rw [HJ_.out, HI_.out]; exact (decide_eq_true (by omega)).symm⟩, ⟨bel_⟩⟩
                               · have e29h := Aside0.mk e29
                                 have e29b0 : (x33_3 == nE) = false := beq_eq_false_iff_ne.mpr e29
                                 have e29b1 : (x33_3 != nE) = true := bne_iff_ne.mpr e29
                                 clear e29
                                 go_wp2
                                 repeat (go_quiet (fail); try go_wp2)
                                 go_meet
                                 case rel => exact ⟨false, rfl, ⟨by have e1q := e1h.out; have e17q := e17h.out; have e25q := e25h.out; have e29q := e29h.out; unfold edgeB; rw [HN.out, HX.out]; rw [HJ_.out, HI_.out]; exact (decide_eq_false (by omega)).symm⟩, ⟨bel_⟩⟩
                        obtain ⟨b9, rfl, HE9, HB9⟩ := hcut
                        clear HB hx477_0 p477 q477
                        have HB := HB9
                        clear HB9
                        by_cases c12 : edgeB (wrap64 ((l0.length : Int) - 1)) x21_2 x33_3 (rd (rd_L1 l0 x21_2) x33_3) = true
                        · rw [if_pos c12] at H
                          obtain rfl : b9 = true := HE9.out.trans c12
                          clear c12
                          simp only [Option.some.injEq, Prod.mk.injEq] at H
                          obtain ⟨rfl, rfl⟩ := H
                          obtain ⟨ad477, e477, hx477_0, p477, q477⟩ := ai_ HR476_0.out x33_3
                          cases e477
                          replace hx477_0 := (HB.out.cell (World.block_lt_of_cell? w _ hx477_0)).trans hx477_0
                          go_wp2
                          go_ret2
                          exact ⟨_, er_, by first | exact Kd.S_nil _ _ _ _ _ | exact Kd.N_nil _ _ _ _ _ | exact Kd.V_nil _ _ _ _ _ | exact Kd.Q_nil _ _ _ _ _ | exact Kd.R_nil _ _ _ _ _, bel_⟩
                        · rw [if_neg c12] at H
                          obtain rfl : b9 = false := HE9.out.trans (Bool.eq_false_iff.mpr c12)
                          clear c12
                          by_cases c13 : x21_2 > 0
                          · as_aux_lemma =>
                            rw [if_pos c13] at H
                            have c13b0 : decide (0 < x21_2) = true := decide_eq_true c13
                            clear c13
                            obtain ⟨ji14, hji14⟩ : ∃ j_ : Int, (wrap64 (x21_2 - 1)) = j_ := ⟨_, rfl⟩
                            replace H : (if 0 ≤ (ji14) then (if (ji14) < (l0.length : Int) then (if x33_3 < ((rd_L1 l0 (ji14)).length : Int) then (if (rd (rd_L1 l0 x21_2) x33_3) = (wrap64 ((rd (rd_L1 l0 (ji14)) x33_3) + 1)) then (if x33_3 > 0 then (if 0 ≤ (wrap64 (x33_3 - 1)) then (if (wrap64 (x33_3 - 1)) < ((rd_L1 l0 x21_2).length : Int) then (if (rd (rd_L1 l0 x21_2) x33_3) = (wrap64 ((rd (rd_L1 l0 x21_2) (wrap64 (x33_3 - 1))) + 1)) then (veils_Of.l1 k3 l0 (wrap64 ((l0.length : Int) - 1)) x21_2 (rd_L1 l0 x21_2) l0 (l0.length : Int) x21_2 (rd_L1 l0 x21_2) ((rd_L1 l0 x21_2).length : Int) (wrap64 (x33_3 + 1))) else (if (rd (rd_L1 l0 x21_2) x33_3) = (wrap64 ((rd (rd_L1 l0 x21_2) (wrap64 (x33_3 - 1))) - 1)) then (veils_Of.l1 k3 l0 (wrap64 ((l0.length : Int) - 1)) x21_2 (rd_L1 l0 x21_2) l0 (l0.length : Int) x21_2 (rd_L1 l0 x21_2) ((rd_L1 l0 x21_2).length : Int) (wrap64 (x33_3 + 1))) else (some (([] : List (List Int)), 2)))) else (none)) else (none)) else (veils_Of.l1 k3 l0 (wrap64 ((l0.length : Int) - 1)) x21_2 (rd_L1 l0 x21_2) l0 (l0.length : Int) x21_2 (rd_L1 l0 x21_2) ((rd_L1 l0 x21_2).length : Int) (wrap64 (x33_3 + 1)))) else (if (rd (rd_L1 l0 x21_2) x33_3) = (wrap64 ((rd (rd_L1 l0 (ji14)) x33_3) - 1)) then (if x33_3 > 0 then (if 0 ≤ (wrap64 (x33_3 - 1)) then (if (wrap64 (x33_3 - 1)) < ((rd_L1 l0 x21_2).length : Int) then (if (rd (rd_L1 l0 x21_2) x33_3) = (wrap64 ((rd (rd_L1 l0 x21_2) (wrap64 (x33_3 - 1))) + 1)) then (veils_Of.l1 k3 l0 (wrap64 ((l0.length : Int) - 1)) x21_2 (rd_L1 l0 x21_2) l0 (l0.length : Int) x21_2 (rd_L1 l0 x21_2) ((rd_L1 l0 x21_2).length : Int) (wrap64 (x33_3 + 1))) else (if (rd (rd_L1 l0 x21_2) x33_3) = (wrap64 ((rd (rd_L1 l0 x21_2) (wrap64 (x33_3 - 1))) - 1)) then (veils_Of.l1 k3 l0 (wrap64 ((l0.length : Int) - 1)) x21_2 (rd_L1 l0 x21_2) l0 (l0.length : Int) x21_2 (rd_L1 l0 x21_2) ((rd_L1 l0 x21_2).length : Int) (wrap64 (x33_3 + 1))) else (some (([] : List (List Int)), 2)))) else (none)) else (none)) else (veils_Of.l1 k3 l0 (wrap64 ((l0.length : Int) - 1)) x21_2 (rd_L1 l0 x21_2) l0 (l0.length : Int) x21_2 (rd_L1 l0 x21_2) ((rd_L1 l0 x21_2).length : Int) (wrap64 (x33_3 + 1)))) else (some (([] : List (List Int)), 2)))) else (none)) else (none)) else (none)) = some (r1, r2) := by first | (rw [hji14] at H; exact H) | (simp only [hji14] at H ⊢; exact H)
                            have hji14w : (IntKind.i64.wrap (x21_2 - 1)) = ji14 := (i64_w _).trans hji14
                            by_cases c15 : 0 ≤ (ji14)
                            · rw [if_pos c15] at H
                              have c15b0 : decide (0 ≤ (ji14)) = true := decide_eq_true c15
                              clear c15
                              by_cases c16 : (ji14) < (l0.length : Int)
                              · rw [if_pos c16] at H
                                have c16b0 : decide ((ji14) < (l0.length : Int)) = true := decide_eq_true c16
                                clear c16
                                by_cases c17 : x33_3 < ((rd_L1 l0 (ji14)).length : Int)
                                · rw [if_pos c17] at H
                                  have c17b0 : decide (x33_3 < ((rd_L1 l0 (ji14)).length : Int)) = true := decide_eq_true c17
                                  clear c17
                                  by_cases c18 : (rd (rd_L1 l0 x21_2) x33_3) = (wrap64 ((rd (rd_L1 l0 (ji14)) x33_3) + 1))
                                  · as_aux_lemma =>
                                    rw [if_pos c18] at H
                                    have c18b0 : ((rd (rd_L1 l0 x21_2) x33_3) == (wrap64 ((rd (rd_L1 l0 (ji14)) x33_3) + 1))) = true := beq_iff_eq.mpr c18
                                    have c18b1 : ((rd (rd_L1 l0 x21_2) x33_3) != (wrap64 ((rd (rd_L1 l0 (ji14)) x33_3) + 1))) = false := bne_eq_false_iff_eq.mpr c18
                                    clear c18
                                    by_cases c19 : x33_3 > 0
                                    · rw [if_pos c19] at H
                                      have c19b0 : decide (0 < x33_3) = true := decide_eq_true c19
                                      clear c19
                                      obtain ⟨ji20, hji20⟩ : ∃ j_ : Int, (wrap64 (x33_3 - 1)) = j_ := ⟨_, rfl⟩
                                      replace H : (if 0 ≤ (ji20) then (if (ji20) < ((rd_L1 l0 x21_2).length : Int) then (if (rd (rd_L1 l0 x21_2) x33_3) = (wrap64 ((rd (rd_L1 l0 x21_2) (ji20)) + 1)) then (veils_Of.l1 k3 l0 (wrap64 ((l0.length : Int) - 1)) x21_2 (rd_L1 l0 x21_2) l0 (l0.length : Int) x21_2 (rd_L1 l0 x21_2) ((rd_L1 l0 x21_2).length : Int) (wrap64 (x33_3 + 1))) else (if (rd (rd_L1 l0 x21_2) x33_3) = (wrap64 ((rd (rd_L1 l0 x21_2) (ji20)) - 1)) then (veils_Of.l1 k3 l0 (wrap64 ((l0.length : Int) - 1)) x21_2 (rd_L1 l0 x21_2) l0 (l0.length : Int) x21_2 (rd_L1 l0 x21_2) ((rd_L1 l0 x21_2).length : Int) (wrap64 (x33_3 + 1))) else (some (([] : List (List Int)), 2)))) else (none)) else (none)) = some (r1, r2) := by first | (rw [hji20] at H; exact H) | (simp only [hji20] at H ⊢; exact H)
                                      have hji20w : (IntKind.i64.wrap (x33_3 - 1)) = ji20 := (i64_w _).trans hji20
                                      by_cases c21 : 0 ≤ (ji20)
                                      · rw [if_pos c21] at H
                                        have c21b0 : decide (0 ≤ (ji20)) = true := decide_eq_true c21
                                        clear c21
                                        by_cases c22 : (ji20) < ((rd_L1 l0 x21_2).length : Int)
                                        · rw [if_pos c22] at H
                                          have c22b0 : decide ((ji20) < ((rd_L1 l0 x21_2).length : Int)) = true := decide_eq_true c22
                                          clear c22
                                          by_cases c23 : (rd (rd_L1 l0 x21_2) x33_3) = (wrap64 ((rd (rd_L1 l0 x21_2) (ji20)) + 1))
                                          · rw [if_pos c23] at H
                                            have c23b0 : ((rd (rd_L1 l0 x21_2) x33_3) == (wrap64 ((rd (rd_L1 l0 x21_2) (ji20)) + 1))) = true := beq_iff_eq.mpr c23
                                            have c23b1 : ((rd (rd_L1 l0 x21_2) x33_3) != (wrap64 ((rd (rd_L1 l0 x21_2) (ji20)) + 1))) = false := bne_eq_false_iff_eq.mpr c23
                                            clear c23
                                            have H' := Aside0.mk H
                                            clear H
                                            obtain ⟨ad477, e477, hx477_0, p477, q477⟩ := ai_ HR476_0.out x33_3
                                            cases e477
                                            replace hx477_0 := (HB.out.cell (World.block_lt_of_cell? w _ hx477_0)).trans hx477_0
                                            obtain ⟨ad478, A478_0, c478_0, e478, hx478_0, HC478_0, HR478_0, p478, q478⟩ := al_ HR0.out (ji14)
                                            obtain rfl : ad476 = ad478 := (by injection e478)
                                            replace hx478_0 := (HB.out.cell (World.block_lt_of_cell? w _ hx478_0)).trans hx478_0
                                            obtain ⟨ad479, e479, hx479_0, p479, q479⟩ := ai_ HR478_0.out x33_3
                                            cases e479
                                            replace hx479_0 := (HB.out.cell (World.block_lt_of_cell? w _ hx479_0)).trans hx479_0
                                            obtain ⟨ad480, e480, hx480_0, p480, q480⟩ := ai_ HR476_0.out (ji20)
                                            obtain rfl : ad477 = ad480 := (by injection e480)
                                            replace hx480_0 := (HB.out.cell (World.block_lt_of_cell? w _ hx480_0)).trans hx480_0
                                            go_wp2
                                            go_roundg k3
                                            case measure => have := HJ1.out; have := HK2.out; have := HK3.out; omega
                                            case rel => exact ⟨(wrap64 (x33_3 + 1)), rf_, H', ⟨by have := HJ1.out; have := HK2.out; have := HK3.out; omega⟩, ⟨bel_⟩⟩
                                          · rw [if_neg c23] at H
                                            have c23b0 : ((rd (rd_L1 l0 x21_2) x33_3) == (wrap64 ((rd (rd_L1 l0 x21_2) (ji20)) + 1))) = false := beq_eq_false_iff_ne.mpr c23
                                            have c23b1 : ((rd (rd_L1 l0 x21_2) x33_3) != (wrap64 ((rd (rd_L1 l0 x21_2) (ji20)) + 1))) = true := bne_iff_ne.mpr c23
                                            by_cases c24 : (rd (rd_L1 l0 x21_2) x33_3) = (wrap64 ((rd (rd_L1 l0 x21_2) (ji20)) - 1))
                                            · rw [if_pos c24] at H
                                              have c24b0 : ((rd (rd_L1 l0 x21_2) x33_3) == (wrap64 ((rd (rd_L1 l0 x21_2) (ji20)) - 1))) = true := beq_iff_eq.mpr c24
                                              have c24b1 : ((rd (rd_L1 l0 x21_2) x33_3) != (wrap64 ((rd (rd_L1 l0 x21_2) (ji20)) - 1))) = false := bne_eq_false_iff_eq.mpr c24
                                              clear c24
                                              have H' := Aside0.mk H
                                              clear H
                                              obtain ⟨ad477, e477, hx477_0, p477, q477⟩ := ai_ HR476_0.out x33_3
                                              cases e477
                                              replace hx477_0 := (HB.out.cell (World.block_lt_of_cell? w _ hx477_0)).trans hx477_0
                                              obtain ⟨ad478, A478_0, c478_0, e478, hx478_0, HC478_0, HR478_0, p478, q478⟩ := al_ HR0.out (ji14)
                                              obtain rfl : ad476 = ad478 := (by injection e478)
                                              replace hx478_0 := (HB.out.cell (World.block_lt_of_cell? w _ hx478_0)).trans hx478_0
                                              obtain ⟨ad479, e479, hx479_0, p479, q479⟩ := ai_ HR478_0.out x33_3
                                              cases e479
                                              replace hx479_0 := (HB.out.cell (World.block_lt_of_cell? w _ hx479_0)).trans hx479_0
                                              obtain ⟨ad480, e480, hx480_0, p480, q480⟩ := ai_ HR476_0.out (ji20)
                                              obtain rfl : ad477 = ad480 := (by injection e480)
                                              replace hx480_0 := (HB.out.cell (World.block_lt_of_cell? w _ hx480_0)).trans hx480_0
                                              obtain ⟨ad481, e481, hx481_0, p481, q481⟩ := ai_ HR476_0.out (ji20)
                                              obtain rfl : ad477 = ad481 := (by injection e481)
                                              replace hx481_0 := (HB.out.cell (World.block_lt_of_cell? w _ hx481_0)).trans hx481_0
                                              go_wp2
                                              go_roundg k3
                                              case measure => have := HJ1.out; have := HK2.out; have := HK3.out; omega
                                              case rel => exact ⟨(wrap64 (x33_3 + 1)), rf_, H', ⟨by have := HJ1.out; have := HK2.out; have := HK3.out; omega⟩, ⟨bel_⟩⟩
                                            · rw [if_neg c24] at H
                                              have c24b0 : ((rd (rd_L1 l0 x21_2) x33_3) == (wrap64 ((rd (rd_L1 l0 x21_2) (ji20)) - 1))) = false := beq_eq_false_iff_ne.mpr c24
                                              have c24b1 : ((rd (rd_L1 l0 x21_2) x33_3) != (wrap64 ((rd (rd_L1 l0 x21_2) (ji20)) - 1))) = true := bne_iff_ne.mpr c24
                                              simp only [Option.some.injEq, Prod.mk.injEq] at H
                                              obtain ⟨rfl, rfl⟩ := H
                                              obtain ⟨ad477, e477, hx477_0, p477, q477⟩ := ai_ HR476_0.out x33_3
                                              cases e477
                                              replace hx477_0 := (HB.out.cell (World.block_lt_of_cell? w _ hx477_0)).trans hx477_0
                                              obtain ⟨ad478, A478_0, c478_0, e478, hx478_0, HC478_0, HR478_0, p478, q478⟩ := al_ HR0.out (ji14)
                                              obtain rfl : ad476 = ad478 := (by injection e478)
                                              replace hx478_0 := (HB.out.cell (World.block_lt_of_cell? w _ hx478_0)).trans hx478_0
                                              obtain ⟨ad479, e479, hx479_0, p479, q479⟩ := ai_ HR478_0.out x33_3
                                              cases e479
                                              replace hx479_0 := (HB.out.cell (World.block_lt_of_cell? w _ hx479_0)).trans hx479_0
                                              obtain ⟨ad480, e480, hx480_0, p480, q480⟩ := ai_ HR476_0.out (ji20)
                                              obtain rfl : ad477 = ad480 := (by injection e480)
                                              replace hx480_0 := (HB.out.cell (World.block_lt_of_cell? w _ hx480_0)).trans hx480_0
                                              obtain ⟨ad481, e481, hx481_0, p481, q481⟩ := ai_ HR476_0.out (ji20)
                                              obtain rfl : ad477 = ad481 := (by injection e481)
                                              replace hx481_0 := (HB.out.cell (World.block_lt_of_cell? w _ hx481_0)).trans hx481_0
                                              go_wp2
                                              go_ret2
                                              exact ⟨_, by first | rfl | (simp [errW_none, errW_some] <;> rfl) | (simp only [← hji14, ← hji20]; first | rfl | (simp [errW_none, errW_some] <;> rfl)) | (simp [*, errW_none, errW_some] <;> rfl), by first | exact Kd.S_nil _ _ _ _ _ | exact Kd.N_nil _ _ _ _ _ | exact Kd.V_nil _ _ _ _ _ | exact Kd.Q_nil _ _ _ _ _ | exact Kd.R_nil _ _ _ _ _, bel_⟩
                                        · rw [if_neg c22] at H
                                          exact absurd H (by simp)
                                      · rw [if_neg c21] at H
                                        exact absurd H (by simp)
                                    · rw [if_neg c19] at H
                                      have c19b0 : decide (0 < x33_3) = false := decide_eq_false c19
                                      clear c19
                                      have H' := Aside0.mk H
                                      clear H
                                      obtain ⟨ad477, e477, hx477_0, p477, q477⟩ := ai_ HR476_0.out x33_3
                                      cases e477
                                      replace hx477_0 := (HB.out.cell (World.block_lt_of_cell? w _ hx477_0)).trans hx477_0
                                      obtain ⟨ad478, A478_0, c478_0, e478, hx478_0, HC478_0, HR478_0, p478, q478⟩ := al_ HR0.out (ji14)
                                      obtain rfl : ad476 = ad478 := (by injection e478)
                                      replace hx478_0 := (HB.out.cell (World.block_lt_of_cell? w _ hx478_0)).trans hx478_0
                                      obtain ⟨ad479, e479, hx479_0, p479, q479⟩ := ai_ HR478_0.out x33_3
                                      cases e479
                                      replace hx479_0 := (HB.out.cell (World.block_lt_of_cell? w _ hx479_0)).trans hx479_0
                                      go_wp2
                                      go_roundg k3
                                      case measure => have := HJ1.out; have := HK2.out; have := HK3.out; omega
                                      case rel => exact ⟨(wrap64 (x33_3 + 1)), rf_, H', ⟨by have := HJ1.out; have := HK2.out; have := HK3.out; omega⟩, ⟨bel_⟩⟩
                                  · as_aux_lemma =>
                                    rw [if_neg c18] at H
                                    have c18b0 : ((rd (rd_L1 l0 x21_2) x33_3) == (wrap64 ((rd (rd_L1 l0 (ji14)) x33_3) + 1))) = false := beq_eq_false_iff_ne.mpr c18
                                    have c18b1 : ((rd (rd_L1 l0 x21_2) x33_3) != (wrap64 ((rd (rd_L1 l0 (ji14)) x33_3) + 1))) = true := bne_iff_ne.mpr c18
                                    by_cases c25 : (rd (rd_L1 l0 x21_2) x33_3) = (wrap64 ((rd (rd_L1 l0 (ji14)) x33_3) - 1))
                                    · as_aux_lemma =>
                                      rw [if_pos c25] at H
                                      have c25b0 : ((rd (rd_L1 l0 x21_2) x33_3) == (wrap64 ((rd (rd_L1 l0 (ji14)) x33_3) - 1))) = true := beq_iff_eq.mpr c25
                                      have c25b1 : ((rd (rd_L1 l0 x21_2) x33_3) != (wrap64 ((rd (rd_L1 l0 (ji14)) x33_3) - 1))) = false := bne_eq_false_iff_eq.mpr c25
                                      clear c25
                                      by_cases c26 : x33_3 > 0
                                      · rw [if_pos c26] at H
                                        have c26b0 : decide (0 < x33_3) = true := decide_eq_true c26
                                        clear c26
                                        obtain ⟨ji27, hji27⟩ : ∃ j_ : Int, (wrap64 (x33_3 - 1)) = j_ := ⟨_, rfl⟩
                                        replace H : (if 0 ≤ (ji27) then (if (ji27) < ((rd_L1 l0 x21_2).length : Int) then (if (rd (rd_L1 l0 x21_2) x33_3) = (wrap64 ((rd (rd_L1 l0 x21_2) (ji27)) + 1)) then (veils_Of.l1 k3 l0 (wrap64 ((l0.length : Int) - 1)) x21_2 (rd_L1 l0 x21_2) l0 (l0.length : Int) x21_2 (rd_L1 l0 x21_2) ((rd_L1 l0 x21_2).length : Int) (wrap64 (x33_3 + 1))) else (if (rd (rd_L1 l0 x21_2) x33_3) = (wrap64 ((rd (rd_L1 l0 x21_2) (ji27)) - 1)) then (veils_Of.l1 k3 l0 (wrap64 ((l0.length : Int) - 1)) x21_2 (rd_L1 l0 x21_2) l0 (l0.length : Int) x21_2 (rd_L1 l0 x21_2) ((rd_L1 l0 x21_2).length : Int) (wrap64 (x33_3 + 1))) else (some (([] : List (List Int)), 2)))) else (none)) else (none)) = some (r1, r2) := by first | (rw [hji27] at H; exact H) | (simp only [hji27] at H ⊢; exact H)
                                        have hji27w : (IntKind.i64.wrap (x33_3 - 1)) = ji27 := (i64_w _).trans hji27
                                        by_cases c28 : 0 ≤ (ji27)
                                        · rw [if_pos c28] at H
                                          have c28b0 : decide (0 ≤ (ji27)) = true := decide_eq_true c28
                                          clear c28
                                          by_cases c29 : (ji27) < ((rd_L1 l0 x21_2).length : Int)
                                          · rw [if_pos c29] at H
                                            have c29b0 : decide ((ji27) < ((rd_L1 l0 x21_2).length : Int)) = true := decide_eq_true c29
                                            clear c29
                                            by_cases c30 : (rd (rd_L1 l0 x21_2) x33_3) = (wrap64 ((rd (rd_L1 l0 x21_2) (ji27)) + 1))
                                            · rw [if_pos c30] at H
                                              have c30b0 : ((rd (rd_L1 l0 x21_2) x33_3) == (wrap64 ((rd (rd_L1 l0 x21_2) (ji27)) + 1))) = true := beq_iff_eq.mpr c30
                                              have c30b1 : ((rd (rd_L1 l0 x21_2) x33_3) != (wrap64 ((rd (rd_L1 l0 x21_2) (ji27)) + 1))) = false := bne_eq_false_iff_eq.mpr c30
                                              clear c30
                                              have H' := Aside0.mk H
                                              clear H
                                              obtain ⟨ad477, e477, hx477_0, p477, q477⟩ := ai_ HR476_0.out x33_3
                                              cases e477
                                              replace hx477_0 := (HB.out.cell (World.block_lt_of_cell? w _ hx477_0)).trans hx477_0
                                              obtain ⟨ad478, A478_0, c478_0, e478, hx478_0, HC478_0, HR478_0, p478, q478⟩ := al_ HR0.out (ji14)
                                              obtain rfl : ad476 = ad478 := (by injection e478)
                                              replace hx478_0 := (HB.out.cell (World.block_lt_of_cell? w _ hx478_0)).trans hx478_0
                                              obtain ⟨ad479, e479, hx479_0, p479, q479⟩ := ai_ HR478_0.out x33_3
                                              cases e479
                                              replace hx479_0 := (HB.out.cell (World.block_lt_of_cell? w _ hx479_0)).trans hx479_0
                                              obtain ⟨ad482, A482_0, c482_0, e482, hx482_0, HC482_0, HR482_0, p482, q482⟩ := al_ HR0.out (ji14)
                                              obtain rfl : ad476 = ad482 := (by injection e482)
                                              replace hx482_0 := (HB.out.cell (World.block_lt_of_cell? w _ hx482_0)).trans hx482_0
                                              have ea_ := Option.some.inj (hx478_0.symm.trans hx482_0)
                                              injection ea_ with ea_ en_ ec_
                                              subst ea_
                                              subst ec_
                                              clear en_
                                              obtain ⟨ad483, e483, hx483_0, p483, q483⟩ := ai_ HR482_0.out x33_3
                                              cases e483
                                              replace hx483_0 := (HB.out.cell (World.block_lt_of_cell? w _ hx483_0)).trans hx483_0
                                              obtain ⟨ad484, e484, hx484_0, p484, q484⟩ := ai_ HR476_0.out (ji27)
                                              obtain rfl : ad477 = ad484 := (by injection e484)
                                              replace hx484_0 := (HB.out.cell (World.block_lt_of_cell? w _ hx484_0)).trans hx484_0
                                              go_wp2
                                              go_roundg k3
                                              case measure => have := HJ1.out; have := HK2.out; have := HK3.out; omega
                                              case rel => exact ⟨(wrap64 (x33_3 + 1)), rf_, H', ⟨by have := HJ1.out; have := HK2.out; have := HK3.out; omega⟩, ⟨bel_⟩⟩
                                            · rw [if_neg c30] at H
                                              have c30b0 : ((rd (rd_L1 l0 x21_2) x33_3) == (wrap64 ((rd (rd_L1 l0 x21_2) (ji27)) + 1))) = false := beq_eq_false_iff_ne.mpr c30
                                              have c30b1 : ((rd (rd_L1 l0 x21_2) x33_3) != (wrap64 ((rd (rd_L1 l0 x21_2) (ji27)) + 1))) = true := bne_iff_ne.mpr c30
                                              by_cases c31 : (rd (rd_L1 l0 x21_2) x33_3) = (wrap64 ((rd (rd_L1 l0 x21_2) (ji27)) - 1))
                                              · rw [if_pos c31] at H
                                                have c31b0 : ((rd (rd_L1 l0 x21_2) x33_3) == (wrap64 ((rd (rd_L1 l0 x21_2) (ji27)) - 1))) = true := beq_iff_eq.mpr c31
                                                have c31b1 : ((rd (rd_L1 l0 x21_2) x33_3) != (wrap64 ((rd (rd_L1 l0 x21_2) (ji27)) - 1))) = false := bne_eq_false_iff_eq.mpr c31
                                                clear c31
                                                have H' := Aside0.mk H
                                                clear H
                                                obtain ⟨ad477, e477, hx477_0, p477, q477⟩ := ai_ HR476_0.out x33_3
                                                cases e477
                                                replace hx477_0 := (HB.out.cell (World.block_lt_of_cell? w _ hx477_0)).trans hx477_0
                                                obtain ⟨ad478, A478_0, c478_0, e478, hx478_0, HC478_0, HR478_0, p478, q478⟩ := al_ HR0.out (ji14)
                                                obtain rfl : ad476 = ad478 := (by injection e478)
                                                replace hx478_0 := (HB.out.cell (World.block_lt_of_cell? w _ hx478_0)).trans hx478_0
                                                obtain ⟨ad479, e479, hx479_0, p479, q479⟩ := ai_ HR478_0.out x33_3
                                                cases e479
                                                replace hx479_0 := (HB.out.cell (World.block_lt_of_cell? w _ hx479_0)).trans hx479_0
                                                obtain ⟨ad482, A482_0, c482_0, e482, hx482_0, HC482_0, HR482_0, p482, q482⟩ := al_ HR0.out (ji14)
                                                obtain rfl : ad476 = ad482 := (by injection e482)
                                                replace hx482_0 := (HB.out.cell (World.block_lt_of_cell? w _ hx482_0)).trans hx482_0
                                                have ea_ := Option.some.inj (hx478_0.symm.trans hx482_0)
                                                injection ea_ with ea_ en_ ec_
                                                subst ea_
                                                subst ec_
                                                clear en_
                                                obtain ⟨ad483, e483, hx483_0, p483, q483⟩ := ai_ HR482_0.out x33_3
                                                cases e483
                                                replace hx483_0 := (HB.out.cell (World.block_lt_of_cell? w _ hx483_0)).trans hx483_0
                                                obtain ⟨ad484, e484, hx484_0, p484, q484⟩ := ai_ HR476_0.out (ji27)
                                                obtain rfl : ad477 = ad484 := (by injection e484)
                                                replace hx484_0 := (HB.out.cell (World.block_lt_of_cell? w _ hx484_0)).trans hx484_0
                                                obtain ⟨ad485, e485, hx485_0, p485, q485⟩ := ai_ HR476_0.out (ji27)
                                                obtain rfl : ad477 = ad485 := (by injection e485)
                                                replace hx485_0 := (HB.out.cell (World.block_lt_of_cell? w _ hx485_0)).trans hx485_0
                                                go_wp2
                                                go_roundg k3
                                                case measure => have := HJ1.out; have := HK2.out; have := HK3.out; omega
                                                case rel => exact ⟨(wrap64 (x33_3 + 1)), rf_, H', ⟨by have := HJ1.out; have := HK2.out; have := HK3.out; omega⟩, ⟨bel_⟩⟩
                                              · rw [if_neg c31] at H
                                                have c31b0 : ((rd (rd_L1 l0 x21_2) x33_3) == (wrap64 ((rd (rd_L1 l0 x21_2) (ji27)) - 1))) = false := beq_eq_false_iff_ne.mpr c31
                                                have c31b1 : ((rd (rd_L1 l0 x21_2) x33_3) != (wrap64 ((rd (rd_L1 l0 x21_2) (ji27)) - 1))) = true := bne_iff_ne.mpr c31
                                                simp only [Option.some.injEq, Prod.mk.injEq] at H
                                                obtain ⟨rfl, rfl⟩ := H
                                                obtain ⟨ad477, e477, hx477_0, p477, q477⟩ := ai_ HR476_0.out x33_3
                                                cases e477
                                                replace hx477_0 := (HB.out.cell (World.block_lt_of_cell? w _ hx477_0)).trans hx477_0
                                                obtain ⟨ad478, A478_0, c478_0, e478, hx478_0, HC478_0, HR478_0, p478, q478⟩ := al_ HR0.out (ji14)
                                                obtain rfl : ad476 = ad478 := (by injection e478)
                                                replace hx478_0 := (HB.out.cell (World.block_lt_of_cell? w _ hx478_0)).trans hx478_0
                                                obtain ⟨ad479, e479, hx479_0, p479, q479⟩ := ai_ HR478_0.out x33_3
                                                cases e479
                                                replace hx479_0 := (HB.out.cell (World.block_lt_of_cell? w _ hx479_0)).trans hx479_0
                                                obtain ⟨ad482, A482_0, c482_0, e482, hx482_0, HC482_0, HR482_0, p482, q482⟩ := al_ HR0.out (ji14)
                                                obtain rfl : ad476 = ad482 := (by injection e482)
                                                replace hx482_0 := (HB.out.cell (World.block_lt_of_cell? w _ hx482_0)).trans hx482_0
                                                have ea_ := Option.some.inj (hx478_0.symm.trans hx482_0)
                                                injection ea_ with ea_ en_ ec_
                                                subst ea_
                                                subst ec_
                                                clear en_
                                                obtain ⟨ad483, e483, hx483_0, p483, q483⟩ := ai_ HR482_0.out x33_3
                                                cases e483
                                                replace hx483_0 := (HB.out.cell (World.block_lt_of_cell? w _ hx483_0)).trans hx483_0
                                                obtain ⟨ad484, e484, hx484_0, p484, q484⟩ := ai_ HR476_0.out (ji27)
                                                obtain rfl : ad477 = ad484 := (by injection e484)
                                                replace hx484_0 := (HB.out.cell (World.block_lt_of_cell? w _ hx484_0)).trans hx484_0
                                                obtain ⟨ad485, e485, hx485_0, p485, q485⟩ := ai_ HR476_0.out (ji27)
                                                obtain rfl : ad477 = ad485 := (by injection e485)
                                                replace hx485_0 := (HB.out.cell (World.block_lt_of_cell? w _ hx485_0)).trans hx485_0
                                                go_wp2
                                                go_ret2
                                                exact ⟨_, by first | rfl | (simp [errW_none, errW_some] <;> rfl) | (simp only [← hji14, ← hji27]; first | rfl | (simp [errW_none, errW_some] <;> rfl)) | (simp [*, errW_none, errW_some] <;> rfl), by first | exact Kd.S_nil _ _ _ _ _ | exact Kd.N_nil _ _ _ _ _ | exact Kd.V_nil _ _ _ _ _ | exact Kd.Q_nil _ _ _ _ _ | exact Kd.R_nil _ _ _ _ _, bel_⟩
                                          · rw [if_neg c29] at H
                                            exact absurd H (by simp)
                                        · rw [if_neg c28] at H
                                          exact absurd H (by simp)
                                      · rw [if_neg c26] at H
                                        have c26b0 : decide (0 < x33_3) = false := decide_eq_false c26
                                        clear c26
                                        have H' := Aside0.mk H
                                        clear H
                                        obtain ⟨ad477, e477, hx477_0, p477, q477⟩ := ai_ HR476_0.out x33_3
                                        cases e477
                                        replace hx477_0 := (HB.out.cell (World.block_lt_of_cell? w _ hx477_0)).trans hx477_0
                                        obtain ⟨ad478, A478_0, c478_0, e478, hx478_0, HC478_0, HR478_0, p478, q478⟩ := al_ HR0.out (ji14)
                                        obtain rfl : ad476 = ad478 := (by injection e478)
                                        replace hx478_0 := (HB.out.cell (World.block_lt_of_cell? w _ hx478_0)).trans hx478_0
                                        obtain ⟨ad479, e479, hx479_0, p479, q479⟩ := ai_ HR478_0.out x33_3
                                        cases e479
                                        replace hx479_0 := (HB.out.cell (World.block_lt_of_cell? w _ hx479_0)).trans hx479_0
                                        obtain ⟨ad482, A482_0, c482_0, e482, hx482_0, HC482_0, HR482_0, p482, q482⟩ := al_ HR0.out (ji14)
                                        obtain rfl : ad476 = ad482 := (by injection e482)
                                        replace hx482_0 := (HB.out.cell (World.block_lt_of_cell? w _ hx482_0)).trans hx482_0
                                        have ea_ := Option.some.inj (hx478_0.symm.trans hx482_0)
                                        injection ea_ with ea_ en_ ec_
                                        subst ea_
                                        subst ec_
                                        clear en_
                                        obtain ⟨ad483, e483, hx483_0, p483, q483⟩ := ai_ HR482_0.out x33_3
                                        cases e483
                                        replace hx483_0 := (HB.out.cell (World.block_lt_of_cell? w _ hx483_0)).trans hx483_0
                                        go_wp2
                                        go_roundg k3
                                        case measure => have := HJ1.out; have := HK2.out; have := HK3.out; omega
                                        case rel => exact ⟨(wrap64 (x33_3 + 1)), rf_, H', ⟨by have := HJ1.out; have := HK2.out; have := HK3.out; omega⟩, ⟨bel_⟩⟩
                                    · as_aux_lemma =>
                                      rw [if_neg c25] at H
                                      have c25b0 : ((rd (rd_L1 l0 x21_2) x33_3) == (wrap64 ((rd (rd_L1 l0 (ji14)) x33_3) - 1))) = false := beq_eq_false_iff_ne.mpr c25
                                      have c25b1 : ((rd (rd_L1 l0 x21_2) x33_3) != (wrap64 ((rd (rd_L1 l0 (ji14)) x33_3) - 1))) = true := bne_iff_ne.mpr c25
                                      simp only [Option.some.injEq, Prod.mk.injEq] at H
                                      obtain ⟨rfl, rfl⟩ := H
                                      obtain ⟨ad477, e477, hx477_0, p477, q477⟩ := ai_ HR476_0.out x33_3
                                      cases e477
                                      replace hx477_0 := (HB.out.cell (World.block_lt_of_cell? w _ hx477_0)).trans hx477_0
                                      obtain ⟨ad478, A478_0, c478_0, e478, hx478_0, HC478_0, HR478_0, p478, q478⟩ := al_ HR0.out (ji14)
                                      obtain rfl : ad476 = ad478 := (by injection e478)
                                      replace hx478_0 := (HB.out.cell (World.block_lt_of_cell? w _ hx478_0)).trans hx478_0
                                      obtain ⟨ad479, e479, hx479_0, p479, q479⟩ := ai_ HR478_0.out x33_3
                                      cases e479
                                      replace hx479_0 := (HB.out.cell (World.block_lt_of_cell? w _ hx479_0)).trans hx479_0
                                      obtain ⟨ad482, A482_0, c482_0, e482, hx482_0, HC482_0, HR482_0, p482, q482⟩ := al_ HR0.out (ji14)
                                      obtain rfl : ad476 = ad482 := (by injection e482)
                                      replace hx482_0 := (HB.out.cell (World.block_lt_of_cell? w _ hx482_0)).trans hx482_0
                                      have ea_ := Option.some.inj (hx478_0.symm.trans hx482_0)
                                      injection ea_ with ea_ en_ ec_
                                      subst ea_
                                      subst ec_
                                      clear en_
                                      obtain ⟨ad483, e483, hx483_0, p483, q483⟩ := ai_ HR482_0.out x33_3
                                      cases e483
                                      replace hx483_0 := (HB.out.cell (World.block_lt_of_cell? w _ hx483_0)).trans hx483_0
                                      go_wp2
                                      go_ret2
                                      exact ⟨_, by first | rfl | (simp [errW_none, errW_some] <;> rfl) | (simp only [← hji14]; first | rfl | (simp [errW_none, errW_some] <;> rfl)) | (simp [*, errW_none, errW_some] <;> rfl), by first | exact Kd.S_nil _ _ _ _ _ | exact Kd.N_nil _ _ _ _ _ | exact Kd.V_nil _ _ _ _ _ | exact Kd.Q_nil _ _ _ _ _ | exact Kd.R_nil _ _ _ _ _, bel_⟩
                                · rw [if_neg c17] at H
                                  exact absurd H (by simp)
                              · rw [if_neg c16] at H
                                exact absurd H (by simp)
                            · rw [if_neg c15] at H
                              exact absurd H (by simp)
                          · as_aux_lemma =>
                            rw [if_neg c13] at H
                            have c13b0 : decide (0 < x21_2) = false := decide_eq_false c13
                            clear c13
                            by_cases c32 : x33_3 > 0
                            · as_aux_lemma =>
                              rw [if_pos c32] at H
                              have c32b0 : decide (0 < x33_3) = true := decide_eq_true c32
                              clear c32
                              obtain ⟨ji33, hji33⟩ : ∃ j_ : Int, (wrap64 (x33_3 - 1)) = j_ := ⟨_, rfl⟩
                              replace H : (if 0 ≤ (ji33) then (if (ji33) < ((rd_L1 l0 x21_2).length : Int) then (if (rd (rd_L1 l0 x21_2) x33_3) = (wrap64 ((rd (rd_L1 l0 x21_2) (ji33)) + 1)) then (veils_Of.l1 k3 l0 (wrap64 ((l0.length : Int) - 1)) x21_2 (rd_L1 l0 x21_2) l0 (l0.length : Int) x21_2 (rd_L1 l0 x21_2) ((rd_L1 l0 x21_2).length : Int) (wrap64 (x33_3 + 1))) else (if (rd (rd_L1 l0 x21_2) x33_3) = (wrap64 ((rd (rd_L1 l0 x21_2) (ji33)) - 1)) then (veils_Of.l1 k3 l0 (wrap64 ((l0.length : Int) - 1)) x21_2 (rd_L1 l0 x21_2) l0 (l0.length : Int) x21_2 (rd_L1 l0 x21_2) ((rd_L1 l0 x21_2).length : Int) (wrap64 (x33_3 + 1))) else (some (([] : List (List Int)), 2)))) else (none)) else (none)) = some (r1, r2) := by first | (rw [hji33] at H; exact H) | (simp only [hji33] at H ⊢; exact H)
                              have hji33w : (IntKind.i64.wrap (x33_3 - 1)) = ji33 := (i64_w _).trans hji33
                              by_cases c34 : 0 ≤ (ji33)
                              · rw [if_pos c34] at H
                                have c34b0 : decide (0 ≤ (ji33)) = true := decide_eq_true c34
                                clear c34
                                by_cases c35 : (ji33) < ((rd_L1 l0 x21_2).length : Int)
                                · rw [if_pos c35] at H
                                  have c35b0 : decide ((ji33) < ((rd_L1 l0 x21_2).length : Int)) = true := decide_eq_true c35
                                  clear c35
                                  by_cases c36 : (rd (rd_L1 l0 x21_2) x33_3) = (wrap64 ((rd (rd_L1 l0 x21_2) (ji33)) + 1))
                                  · rw [if_pos c36] at H
                                    have c36b0 : ((rd (rd_L1 l0 x21_2) x33_3) == (wrap64 ((rd (rd_L1 l0 x21_2) (ji33)) + 1))) = true := beq_iff_eq.mpr c36
                                    have c36b1 : ((rd (rd_L1 l0 x21_2) x33_3) != (wrap64 ((rd (rd_L1 l0 x21_2) (ji33)) + 1))) = false := bne_eq_false_iff_eq.mpr c36
                                    clear c36
                                    have H' := Aside0.mk H
                                    clear H
                                    obtain ⟨ad477, e477, hx477_0, p477, q477⟩ := ai_ HR476_0.out x33_3
                                    cases e477
                                    replace hx477_0 := (HB.out.cell (World.block_lt_of_cell? w _ hx477_0)).trans hx477_0
                                    obtain ⟨ad486, e486, hx486_0, p486, q486⟩ := ai_ HR476_0.out (ji33)
                                    obtain rfl : ad477 = ad486 := (by injection e486)
                                    replace hx486_0 := (HB.out.cell (World.block_lt_of_cell? w _ hx486_0)).trans hx486_0
                                    go_wp2
                                    go_roundg k3
                                    case measure => have := HJ1.out; have := HK2.out; have := HK3.out; omega
                                    case rel => exact ⟨(wrap64 (x33_3 + 1)), rf_, H', ⟨by have := HJ1.out; have := HK2.out; have := HK3.out; omega⟩, ⟨bel_⟩⟩
                                  · rw [if_neg c36] at H
                                    have c36b0 : ((rd (rd_L1 l0 x21_2) x33_3) == (wrap64 ((rd (rd_L1 l0 x21_2) (ji33)) + 1))) = false := beq_eq_false_iff_ne.mpr c36
                                    have c36b1 : ((rd (rd_L1 l0 x21_2) x33_3) != (wrap64 ((rd (rd_L1 l0 x21_2) (ji33)) + 1))) = true := bne_iff_ne.mpr c36
                                    by_cases c37 : (rd (rd_L1 l0 x21_2) x33_3) = (wrap64 ((rd (rd_L1 l0 x21_2) (ji33)) - 1))
                                    · rw [if_pos c37] at H
                                      have c37b0 : ((rd (rd_L1 l0 x21_2) x33_3) == (wrap64 ((rd (rd_L1 l0 x21_2) (ji33)) - 1))) = true := beq_iff_eq.mpr c37
                                      have c37b1 : ((rd (rd_L1 l0 x21_2) x33_3) != (wrap64 ((rd (rd_L1 l0 x21_2) (ji33)) - 1))) = false := bne_eq_false_iff_eq.mpr c37
                                      clear c37
                                      have H' := Aside0.mk H
                                      clear H
                                      obtain ⟨ad477, e477, hx477_0, p477, q477⟩ := ai_ HR476_0.out x33_3
                                      cases e477
                                      replace hx477_0 := (HB.out.cell (World.block_lt_of_cell? w _ hx477_0)).trans hx477_0
                                      obtain ⟨ad486, e486, hx486_0, p486, q486⟩ := ai_ HR476_0.out (ji33)
                                      obtain rfl : ad477 = ad486 := (by injection e486)
                                      replace hx486_0 := (HB.out.cell (World.block_lt_of_cell? w _ hx486_0)).trans hx486_0
                                      obtain ⟨ad487, e487, hx487_0, p487, q487⟩ := ai_ HR476_0.out (ji33)
                                      obtain rfl : ad477 = ad487 := (by injection e487)
                                      replace hx487_0 := (HB.out.cell (World.block_lt_of_cell? w _ hx487_0)).trans hx487_0
                                      go_wp2
                                      go_roundg k3
                                      case measure => have := HJ1.out; have := HK2.out; have := HK3.out; omega
                                      case rel => exact ⟨(wrap64 (x33_3 + 1)), rf_, H', ⟨by have := HJ1.out; have := HK2.out; have := HK3.out; omega⟩, ⟨bel_⟩⟩
                                    · rw [if_neg c37] at H
                                      have c37b0 : ((rd (rd_L1 l0 x21_2) x33_3) == (wrap64 ((rd (rd_L1 l0 x21_2) (ji33)) - 1))) = false := beq_eq_false_iff_ne.mpr c37
                                      have c37b1 : ((rd (rd_L1 l0 x21_2) x33_3) != (wrap64 ((rd (rd_L1 l0 x21_2) (ji33)) - 1))) = true := bne_iff_ne.mpr c37
                                      simp only [Option.some.injEq, Prod.mk.injEq] at H
                                      obtain ⟨rfl, rfl⟩ := H
                                      obtain ⟨ad477, e477, hx477_0, p477, q477⟩ := ai_ HR476_0.out x33_3
                                      cases e477
                                      replace hx477_0 := (HB.out.cell (World.block_lt_of_cell? w _ hx477_0)).trans hx477_0
                                      obtain ⟨ad486, e486, hx486_0, p486, q486⟩ := ai_ HR476_0.out (ji33)
                                      obtain rfl : ad477 = ad486 := (by injection e486)
                                      replace hx486_0 := (HB.out.cell (World.block_lt_of_cell? w _ hx486_0)).trans hx486_0
                                      obtain ⟨ad487, e487, hx487_0, p487, q487⟩ := ai_ HR476_0.out (ji33)
                                      obtain rfl : ad477 = ad487 := (by injection e487)
                                      replace hx487_0 := (HB.out.cell (World.block_lt_of_cell? w _ hx487_0)).trans hx487_0
                                      go_wp2
                                      go_ret2
                                      exact ⟨_, by first | rfl | (simp [errW_none, errW_some] <;> rfl) | (simp only [← hji33]; first | rfl | (simp [errW_none, errW_some] <;> rfl)) | (simp [*, errW_none, errW_some] <;> rfl), by first | exact Kd.S_nil _ _ _ _ _ | exact Kd.N_nil _ _ _ _ _ | exact Kd.V_nil _ _ _ _ _ | exact Kd.Q_nil _ _ _ _ _ | exact Kd.R_nil _ _ _ _ _, bel_⟩
                                · rw [if_neg c35] at H
                                  exact absurd H (by simp)
                              · rw [if_neg c34] at H
                                exact absurd H (by simp)
                            · as_aux_lemma =>
                              rw [if_neg c32] at H
                              have c32b0 : decide (0 < x33_3) = false := decide_eq_false c32
                              clear c32
                              have H' := Aside0.mk H
                              clear H
                              obtain ⟨ad477, e477, hx477_0, p477, q477⟩ := ai_ HR476_0.out x33_3
                              cases e477
                              replace hx477_0 := (HB.out.cell (World.block_lt_of_cell? w _ hx477_0)).trans hx477_0
                              go_wp2
                              go_roundg k3
                              case measure => have := HJ1.out; have := HK2.out; have := HK3.out; omega
                              case rel => exact ⟨(wrap64 (x33_3 + 1)), rf_, H', ⟨by have := HJ1.out; have := HK2.out; have := HK3.out; omega⟩, ⟨bel_⟩⟩
                      · rw [if_neg c11] at H
                        exact absurd H (by simp)
                    · rw [if_neg c10] at H
                      exact absurd H (by simp)
                  · rw [if_neg c9] at H
                    have c9b0 : decide (x33_3 < ((rd_L1 l0 x21_2).length : Int)) = false := decide_eq_false c9
                    clear c9
                    have H' := Aside0.mk H
                    clear H
                    go_wp2
                    go_roundg k3
                    case measure => have := HJ1.out; have := HK2.out; have := HK3.out; omega
                    case rel => exact ⟨(wrap64 (x21_2 + 1)), rf_, H', ⟨by have := HJ1.out; have := HK2.out; have := HK3.out; omega⟩, ⟨bel_⟩⟩
              · rw [if_neg c8] at H
                have c8b0 : (((rd_L1 l0 x21_2).length : Int) == (wrap64 ((wrap64 ((l0.length : Int) - 1)) + 1))) = false := beq_eq_false_iff_ne.mpr c8
                have c8b1 : (((rd_L1 l0 x21_2).length : Int) != (wrap64 ((wrap64 ((l0.length : Int) - 1)) + 1))) = true := bne_iff_ne.mpr c8
                simp only [Option.some.injEq, Prod.mk.injEq] at H
                obtain ⟨rfl, rfl⟩ := H
                obtain ⟨ad476, A476_0, c476_0, e476, hx476_0, HC476_0, HR476_0, p476, q476⟩ := al_ HR0.out x21_2
                cases e476
                replace hx476_0 := (HB.out.cell (World.block_lt_of_cell? w _ hx476_0)).trans hx476_0
                go_wp2
                go_ret2
                exact ⟨_, er_, by first | exact Kd.S_nil _ _ _ _ _ | exact Kd.N_nil _ _ _ _ _ | exact Kd.V_nil _ _ _ _ _ | exact Kd.Q_nil _ _ _ _ _ | exact Kd.R_nil _ _ _ _ _, bel_⟩
            · rw [if_neg c7] at H
              exact absurd H (by simp)
          · rw [if_neg c6] at H
            exact absurd H (by simp)
        · rw [if_neg c5] at H
          have c5b0 : decide (x21_2 < (l0.length : Int)) = false := decide_eq_false c5
          clear c5
          replace H := Option.bind_eq_some_iff.mp H
          obtain ⟨t473, A380, H⟩ := H
          replace H : (some (t473, 0)) = some (r1, r2) := H
          have A38 := Aside0.mk A380
          clear A380
          simp only [Option.some.injEq, Prod.mk.injEq] at H
          obtain ⟨rfl, rfl⟩ := H
          go_wp2_with (first | ((with_reducible refine gate_callee (f := 53) rfl ?_); refine goesL_ (some 137) rfl rfl Try.func53 (by kernel_rfl) rfl #[.iface 54 (.slice A0 l0.length c0)] rfl ar_ ?_; (with_reducible refine (veils_of_heights.calls _ _ l0 t473 _ ?side1 ?side2 A38.out).mono ?_); (case side1 => repeat (first | exact (Kd.C_below HR0.out HB.out) | (with_reducible refine Kd.C_alloc ?_ _) | (with_reducible refine Kd.C_drewN ?_ _) | (with_reducible refine Kd.C_drew ?_))); (case side2 => exact HC0.out); rintro e w39 ⟨v474, rfl, ho0, hb⟩; refine ⟨_, rfl, ?_⟩; have n0_ := Aside0.mk (Kd.S_lower ho0 (below_size (bel_))); have n1_ := Aside0.mk (below_step (bel_) hb); clear HB; have HO475 := n0_; have HB := n1_; clear n0_ n1_; (try clear hb); (try clear hb2); (try clear hk); (try clear hi); (try clear ho0)))
          go_ret2
          exact ⟨_, er_, by (with_reducible repeat (first | apply Kd.S_alloc | apply Kd.S_drewN | apply Kd.S_drew)); exact HO475.out, bel_⟩

end Go.Proofs.Ytdinepghommchaa.V
