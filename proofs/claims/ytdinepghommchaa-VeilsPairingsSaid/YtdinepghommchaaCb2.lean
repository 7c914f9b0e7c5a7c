/- The walks and the pure laws under the claims of VeilsAll, VeilsPairings, VeilsSummed, part: Vf67, Vf50, Vf48, Vf47, Vf17, Vf14, Vf70, Vf79, Vf68, Vf69, Vf51, Vf28, Vf31, Vf44, Vf45. -/
import Derived.Test.YtdinepghommchaaCb1
-- Written by a program of this session over the kit's printer: wip/gp.py.
namespace Go.Proofs.Ytdinepghommchaa.V
open Go.RowKit Go.Proofs.YtdinepghommchaaW.PrintWords Go.Proofs.YtdinepghommchaaW.PrintLast Go.Proofs.YtdinepghommchaaW.PrintMore
attribute [local go_sem] max2_int min2_int max_two min_two max_three min_three max_four min_four   -- for this text's walks alone
set_option linter.unusedVariables false
set_option linter.unusedSimpArgs false

/-! ### veils_heights_follow: function 67 -/
mutual
def veils_heights_follow.l0 : Nat → List (List Int) → Int → Int → Int → Int → Option (Int × Int × Int)
 | 0, _, _, _, _, _ => none
 | k + 1, x0, x5, x281000, x281001, x281002 => veils_heights_follow.l1 k x0 x5 x281002 0 x281000 x281001 x281002
def veils_heights_follow.l1 : Nat → List (List Int) → Int → Int → Int → Int → Int → Int → Option (Int × Int × Int)
 | 0, _, _, _, _, _, _, _ => none
 | k + 1, x0, x5, x6, x13, x281000, x281001, x281002 => if x13 < 4 then (if x13 = x6 then (veils_heights_follow.l1 k x0 x5 x6 (wrap64 (x13 + 1)) x281000 x281001 x281002) else ((veils_heights_thread.f x0 x281000 x281001 x13).bind fun t283 => (if t283 = true then ((veils_knot_step.f x281000 x281001 x13).bind fun bt284 => (if (mn bt284.1 bt284.2.1) < 1 then (some (x281000, x281001, x13)) else (if (mx bt284.1 bt284.2.1) > x5 then (some (x281000, x281001, x13)) else (veils_heights_follow.l0 k x0 x5 bt284.1 bt284.2.1 bt284.2.2)))) else (veils_heights_follow.l1 k x0 x5 x6 (wrap64 (x13 + 1)) x281000 x281001 x281002)))) else ((veils_knot_step.f x281000 x281001 x281002).bind fun bt288 => (if (mn bt288.1 bt288.2.1) < 1 then (some (x281000, x281001, x281002)) else (if (mx bt288.1 bt288.2.1) > x5 then (some (x281000, x281001, x281002)) else (veils_heights_follow.l0 k x0 x5 bt288.1 bt288.2.1 bt288.2.2))))
end
def veils_heights_follow.f (k : Nat) (l0 : List (List Int)) (a1_0 : Int) (a1_1 : Int) (a1_2 : Int) : Option (Int × Int × Int) := (veils_heights_size.f l0).bind fun t282 => (veils_heights_follow.l0 k l0 t282 a1_0 a1_1 a1_2)
theorem veils_heights_follow.mono_l : ∀ k, (∀ y0 y1 y2 y3 y4, LeO (veils_heights_follow.l0 k y0 y1 y2 y3 y4) (veils_heights_follow.l0 (k + 1) y0 y1 y2 y3 y4)) ∧ (∀ y0 y1 y2 y3 y4 y5 y6, LeO (veils_heights_follow.l1 k y0 y1 y2 y3 y4 y5 y6) (veils_heights_follow.l1 (k + 1) y0 y1 y2 y3 y4 y5 y6))
 | 0 => ⟨fun _ _ _ _ _ r h => by simp [veils_heights_follow.l0] at h, fun _ _ _ _ _ _ _ r h => by simp [veils_heights_follow.l1] at h⟩
 | k + 1 => by
  obtain ⟨ih0, ih1⟩ := veils_heights_follow.mono_l k
  refine ⟨?_, ?_⟩
  · intro y0 y1 y2 y3 y4
    unfold veils_heights_follow.l0
    repeat' first
    | (with_reducible exact ih0 _ _ _ _ _)
    | (with_reducible exact ih1 _ _ _ _ _ _ _)
    | (with_reducible exact LeO.refl _)
    | (with_reducible exact LeO.none _)
    | (with_reducible refine LeO.ite ?_ ?_)
    | (with_reducible refine LeO.bind ?_ (fun _ => ?_))
    | exact ih0 _ _ _ _ _
    | exact ih1 _ _ _ _ _ _ _
    | exact LeO.none _
    | refine LeO.ite ?_ ?_
    | refine LeO.bind ?_ (fun _ => ?_)
  · intro y0 y1 y2 y3 y4 y5 y6
    unfold veils_heights_follow.l1
    repeat' first
    | (with_reducible exact ih0 _ _ _ _ _)
    | (with_reducible exact ih1 _ _ _ _ _ _ _)
    | (with_reducible exact LeO.refl _)
    | (with_reducible exact LeO.none _)
    | (with_reducible refine LeO.ite ?_ ?_)
    | (with_reducible refine LeO.bind ?_ (fun _ => ?_))
    | exact ih0 _ _ _ _ _
    | exact ih1 _ _ _ _ _ _ _
    | exact LeO.none _
    | refine LeO.ite ?_ ?_
    | refine LeO.bind ?_ (fun _ => ?_)
theorem veils_heights_follow.mono : ∀ a0 a1 a2 a3 k, LeO (veils_heights_follow.f k a0 a1 a2 a3) (veils_heights_follow.f (k + 1) a0 a1 a2 a3) := by
 intro a0 a1 a2 a3 k
 obtain ⟨ih0, ih1⟩ := veils_heights_follow.mono_l k
 unfold veils_heights_follow.f
 repeat' first
  | (with_reducible exact ih0 _ _ _ _ _)
  | (with_reducible exact ih1 _ _ _ _ _ _ _)
  | (with_reducible exact LeO.refl _)
  | (with_reducible exact LeO.none _)
  | (with_reducible refine LeO.ite ?_ ?_)
  | (with_reducible refine LeO.bind ?_ (fun _ => ?_))
  | exact ih0 _ _ _ _ _
  | exact ih1 _ _ _ _ _ _ _
  | exact LeO.none _
  | refine LeO.ite ?_ ?_
  | refine LeO.bind ?_ (fun _ => ?_)
set_option maxHeartbeats 8000000 in
set_option maxRecDepth 100000 in
theorem veils_heights_follow.calls (k : Nat) (A0 : Option Addr) (c0 : Nat) (l0 : List (List Int)) (a1_0 : Int) (a1_1 : Int) (a1_2 : Int) (r1 : Int) (r2 : Int) (r3 : Int) (w : World) (hr0 : Kd.C (Kd.slice 3 (Kd.int .i64)) w A0 l0.length l0) (hc0 : l0.length ≤ c0) (h : veils_heights_follow.f k l0 a1_0 a1_1 a1_2 = some (r1, r2, r3)) :
 Calls Try.prog 67 #[.slice A0 l0.length c0, .agg #[.int .i64 a1_0, .int .i64 a1_1, .int .i64 a1_2]] w fun e w' => e = .returned (.agg #[.int .i64 r1, .int .i64 r2, .int .i64 r3]) ∧ Below w.heap.size w w' := by
 have hu73 := Try.underlying73
 have HR0 := Aside0.mk hr0
 have HC0 := Aside0.mk hc0
 clear hr0 hc0
 have HB := Aside0.mk (Below.refl w.heap.size w)
 have H : ((veils_heights_size.f l0).bind fun t282 => (veils_heights_follow.l0 k l0 t282 a1_0 a1_1 a1_2)) = some (r1, r2, r3) := h
 clear h
 replace H := Option.bind_eq_some_iff.mp H
 obtain ⟨t282, A30, H⟩ := H
 replace H : (veils_heights_follow.l0 k l0 t282 a1_0 a1_1 a1_2) = some (r1, r2, r3) := H
 have A3 := Aside0.mk A30
 clear A30
 have H' := Aside0.mk H
 clear H
 go_enter Try.func67, Try.ntmps67
 go_wp2_with (first | ((with_reducible refine gate_dst (N := 3) rfl ?_); (try (refine gate_guard (by rfl) ?_; dsimp only)); refine box_event ?hg (N := 3) ?hd (cs := #[.int .i64 a1_0, .int .i64 a1_1, .int .i64 a1_2]) (t := 73) ?hr ?_; (case hd => rfl); (case hg => rfl); (case hr => first | (go_simp; done) | (go_simp; rfl)); intro gb280 hg w4 hbox hb; have n0_ := Aside0.mk (below_step (bel_) hb); have n1_ := Aside0.mk (hbox); have n2_ := Aside0.mk ((by rw [hg]; exact (below_size (bel_)) : w.heap.size ≤ gb280)); have n3_ := Aside0.mk ((by rw [hg]; exact (below_size (bel_)) : w.heap.size ≤ gb280)); clear HB; have HB := n0_; have BK280 := n1_; have GW280 := n2_; have GE280 := n3_; clear n0_ n1_ n2_ n3_; clear hb hbox hg) | ((with_reducible refine gate_dst (N := 4) rfl ?_); (try (refine gate_guard (by rfl) ?_; dsimp only)); refine box_event ?hg (N := 4) ?hd (cs := #[.int .i64 0, .int .i64 0, .int .i64 0]) (t := 73) ?hr ?_; (case hd => rfl); (case hg => rfl); (case hr => first | (go_simp; done) | (go_simp; rfl)); intro gb281 hg w5 hbox hb; have n0_ := Aside0.mk (blk_below (g := gb280) (o := .cells #[.int .i64 a1_0, .int .i64 a1_1, .int .i64 a1_2] 73 (0, 0)) (nB_ BK280.out) hb); have n1_ := Aside0.mk (below_step (by repeat (first | (with_reducible first | exact HB.out | apply below_alloc | apply pw_below_drewN | apply below_drew1 | refine below_set ?_ GE280.out) | exact HB.out)) hb); have n2_ := Aside0.mk (hbox); have n3_ := Aside0.mk ((by rw [hg]; exact (below_size (by repeat (first | (with_reducible first | exact HB.out | apply below_alloc | apply pw_below_drewN | apply below_drew1 | refine below_set ?_ GE280.out) | exact HB.out))) : w.heap.size ≤ gb281)); have n4_ := Aside0.mk ((by rw [hg]; exact (below_size (by repeat (first | (with_reducible first | exact HB.out | apply below_alloc | apply pw_below_drewN | apply below_drew1 | refine below_set ?_ GE280.out) | exact HB.out))) : w.heap.size ≤ gb281)); have n5_ := Aside0.mk ((by rw [hg]; exact Nat.ne_of_lt (blk_lt (g := gb280) (o := .cells #[.int .i64 a1_0, .int .i64 a1_1, .int .i64 a1_2] 73 (0, 0)) (nB_ BK280.out)) : gb280 ≠ gb281)); have n6_ := Aside0.mk ((by rw [hg]; exact Nat.ne_of_gt (blk_lt (g := gb280) (o := .cells #[.int .i64 a1_0, .int .i64 a1_1, .int .i64 a1_2] 73 (0, 0)) (nB_ BK280.out)) : gb281 ≠ gb280)); clear BK280; clear HB; have BK280 := n0_; have HB := n1_; have BK281 := n2_; have GW281 := n3_; have GE281 := n4_; have NB280_281 := n5_; have NB281_280 := n6_; clear n0_ n1_ n2_ n3_ n4_ n5_ n6_; clear hb hbox hg) | ((with_reducible refine gate_callee (f := 74) rfl ?_); refine goesL_ (some 10) rfl rfl Try.func74 (by kernel_rfl) rfl #[.slice A0 l0.length c0] rfl ar_ ?_; (with_reducible refine (veils_heights_size.calls _ _ l0 t282 _ ?side1 ?side2 A3.out).mono ?_); (case side1 => repeat (first | exact (Kd.C_below HR0.out HB.out) | (with_reducible refine Kd.C_alloc ?_ _) | (with_reducible refine Kd.C_drewN ?_ _) | (with_reducible refine Kd.C_drew ?_))); (case side2 => exact HC0.out); rintro e w' ⟨rfl, ⟨nd, rfl⟩⟩; refine ⟨_, rfl, ?_⟩))
 go_loopg [] k (fun kq w' => ∃ (x281000_1 : Int) (x281001_1 : Int) (x281002_1 : Int) (x282000_1 : Int) (x282001_1 : Int) (x282002_1 : Int), Aside0 (veils_heights_follow.l0 kq l0 t282 x281000_1 x281001_1 x281002_1 = some (r1, r2, r3)) ∧ Aside0 (kq ≤ k) ∧ Aside0 (w'.heap[gb280]? = some (.cells #[.int .i64 x281000_1, .int .i64 x281001_1, .int .i64 x281002_1] 73 (0, 0))) ∧ Aside0 (w'.heap[gb281]? = some (.cells #[.int .i64 x282000_1, .int .i64 x282001_1, .int .i64 x282002_1] 73 (0, 0))) ∧ Aside0 (Below w.heap.size w w'))
 case atStart => exact ⟨(a1_0), (a1_1), (a1_2), (0), (0), (0), H', ⟨Nat.le_refl _⟩, ⟨nB_ BK280.out⟩, ⟨nB_ BK281.out⟩, ⟨belG_⟩⟩
 case round =>
  clear H'
  try clear p2
  obtain ⟨x281000_1, x281001_1, x281002_1, x282000_1, x282001_1, x282002_1, HA, HK1, BK280, BK281, HB⟩ := hrel
  cases gk with
  | zero => exact absurd HA.out (by simp [veils_heights_follow.l0])
  | succ k1 =>
    have H := HA.out
    clear HA
    simp only [veils_heights_follow.l0] at H
    have H' := Aside0.mk H
    clear H
    have hnb6 := NB280_281.out
    have hnc6 := NB281_280.out
    have hcz7_0 : wr.cell? ⟨gb280, 0, none⟩ = some (.int .i64 x281000_1) := (blk_cell BK280.out 0).trans rfl
    have hcz7_1 : wr.cell? ⟨gb280, 1, none⟩ = some (.int .i64 x281001_1) := (blk_cell BK280.out 1).trans rfl
    have hcz7_2 : wr.cell? ⟨gb280, 2, none⟩ = some (.int .i64 x281002_1) := (blk_cell BK280.out 2).trans rfl
    have hfz7_0 := blk_frozen BK280.out 0
    have hfz7_1 := blk_frozen BK280.out 1
    have hfz7_2 := blk_frozen BK280.out 2
    go_wp2
    go_loopg [13] k1 (fun kq v13 w' => ∃ (x13_2 : Int) (x281002_2 : Int), v13 = .int .i64 x13_2 ∧ Aside0 (veils_heights_follow.l1 kq l0 t282 x281002_1 x13_2 x281000_1 x281001_1 x281002_2 = some (r1, r2, r3)) ∧ Aside0 (kq ≤ k1) ∧ Aside0 (w'.heap[gb280]? = some (.cells #[.int .i64 x281000_1, .int .i64 x281001_1, .int .i64 x281002_2] 73 (0, 0))) ∧ Aside0 (w'.heap[gb281]? = some (.cells #[.int .i64 x282000_1, .int .i64 x282001_1, .int .i64 x282002_1] 73 (0, 0))) ∧ Aside0 (Below w.heap.size w w'))
    case atStart => exact ⟨(0), (x281002_1), rf_, H', ⟨Nat.le_refl _⟩, ⟨nB_ BK280.out⟩, ⟨nB_ BK281.out⟩, ⟨belG_⟩⟩
    case round =>
     clear H'
     try clear p2
     try clear c6
     try clear c7
     try clear hcz7_0
     try clear hcz7_1
     try clear hcz7_2
     try clear hfz7_0
     try clear hfz7_1
     try clear hfz7_2
     try clear p2
     obtain ⟨x13_2, x281002_2, rfl, HA, HK2, BK280, BK281, HB⟩ := hrel
     cases gk with
     | zero => exact absurd HA.out (by simp [veils_heights_follow.l1])
     | succ k2 =>
      have H := HA.out
      clear HA
      simp only [veils_heights_follow.l1] at H
      by_cases c8 : x13_2 < 4
      · rw [if_pos c8] at H
        have c8b0 : decide (x13_2 < 4) = true := decide_eq_true c8
        clear c8
        by_cases c9 : x13_2 = x281002_1
        · rw [if_pos c9] at H
          have c9b0 : (x13_2 == x281002_1) = true := beq_iff_eq.mpr c9
          have c9b1 : (x13_2 != x281002_1) = false := bne_eq_false_iff_eq.mpr c9
          clear c9
          have H' := Aside0.mk H
          clear H
          go_wp2
          go_roundg k2
          case measure => have := HK1.out; have := HK2.out; omega
          case rel => exact ⟨(wrap64 (x13_2 + 1)), (x281002_2), rf_, H', ⟨by have := HK1.out; have := HK2.out; omega⟩, ⟨nB_ BK280.out⟩, ⟨nB_ BK281.out⟩, ⟨belG_⟩⟩
        · rw [if_neg c9] at H
          have c9b0 : (x13_2 == x281002_1) = false := beq_eq_false_iff_ne.mpr c9
          have c9b1 : (x13_2 != x281002_1) = true := bne_iff_ne.mpr c9
          replace H := Option.bind_eq_some_iff.mp H
          obtain ⟨t283, A100, H⟩ := H
          replace H : (if t283 = true then ((veils_knot_step.f x281000_1 x281001_1 x13_2).bind fun bt284 => (if (mn bt284.1 bt284.2.1) < 1 then (some (x281000_1, x281001_1, x13_2)) else (if (mx bt284.1 bt284.2.1) > t282 then (some (x281000_1, x281001_1, x13_2)) else (veils_heights_follow.l0 k2 l0 t282 bt284.1 bt284.2.1 bt284.2.2)))) else (veils_heights_follow.l1 k2 l0 t282 x281002_1 (wrap64 (x13_2 + 1)) x281000_1 x281001_1 x281002_2)) = some (r1, r2, r3) := H
          have A10 := Aside0.mk A100
          clear A100
          by_cases c11 : t283 = true
          · subst c11
            have H1 : ((veils_knot_step.f x281000_1 x281001_1 x13_2).bind fun bt284 => (if (mn bt284.1 bt284.2.1) < 1 then (some (x281000_1, x281001_1, x13_2)) else (if (mx bt284.1 bt284.2.1) > t282 then (some (x281000_1, x281001_1, x13_2)) else (veils_heights_follow.l0 k2 l0 t282 bt284.1 bt284.2.1 bt284.2.2)))) = some (r1, r2, r3) := by rw [if_pos rfl] at H; exact H
            clear H
            have H := H1
            clear H1
            replace H := Option.bind_eq_some_iff.mp H
            obtain ⟨⟨t284, t285, t286⟩, A120, H⟩ := H
            replace H : (if (mn t284 t285) < 1 then (some (x281000_1, x281001_1, x13_2)) else (if (mx t284 t285) > t282 then (some (x281000_1, x281001_1, x13_2)) else (veils_heights_follow.l0 k2 l0 t282 t284 t285 t286))) = some (r1, r2, r3) := H
            have A12 := Aside0.mk A120
            clear A120
            obtain ⟨ji13, hji13⟩ : ∃ j_ : Int, (mn t284 t285) = j_ := ⟨_, rfl⟩
            replace H : (if (ji13) < 1 then (some (x281000_1, x281001_1, x13_2)) else (if (mx t284 t285) > t282 then (some (x281000_1, x281001_1, x13_2)) else (veils_heights_follow.l0 k2 l0 t282 t284 t285 t286))) = some (r1, r2, r3) := by first | (rw [hji13] at H; exact H) | (simp only [hji13] at H ⊢; exact H)
            (try rw [hji13] at A10)
            (try rw [hji13] at A12)
            have hji13_ : (if t285 < t284 then t285 else t284) = ji13 := hji13
            by_cases c14 : (ji13) < 1
            · rw [if_pos c14] at H
              have c14b0 : decide ((ji13) < 1) = true := decide_eq_true c14
              clear c14
              simp only [Option.some.injEq, Prod.mk.injEq] at H
              obtain ⟨rfl, rfl, rfl⟩ := H
              have hnb15 := NB280_281.out
              have hnc15 := NB281_280.out
              have hcz16_0 : wr.cell? ⟨gb280, 0, none⟩ = some (.int .i64 x281000_1) := (blk_cell BK280.out 0).trans rfl
              have hcz16_1 : wr.cell? ⟨gb280, 1, none⟩ = some (.int .i64 x281001_1) := (blk_cell BK280.out 1).trans rfl
              have hcz16_2 : wr.cell? ⟨gb280, 2, none⟩ = some (.int .i64 x281002_2) := (blk_cell BK280.out 2).trans rfl
              have hfz16_0 := blk_frozen BK280.out 0
              have hfz16_1 := blk_frozen BK280.out 1
              have hfz16_2 := blk_frozen BK280.out 2
              go_wp2_with (first | (go_at_call 77; (with_reducible refine (veils_heights_thread.calls _ _ l0 x281000_1 x281001_1 x13_2 true _ ?side1 ?side2 A10.out).mono ?_); (case side1 => repeat (first | exact (Kd.C_below HR0.out HB.out) | (with_reducible refine Kd.C_alloc ?_ _) | (with_reducible refine Kd.C_drewN ?_ _) | (with_reducible refine Kd.C_drew ?_))); (case side2 => exact HC0.out); rintro e w17 ⟨rfl, hb⟩; have n0_ := Aside0.mk (blk_below (g := gb280) (o := .cells #[.int .i64 x281000_1, .int .i64 x281001_1, .int .i64 x281002_2] 73 (0, 0)) (nB_ BK280.out) hb); have n1_ := Aside0.mk (blk_below (g := gb281) (o := .cells #[.int .i64 x282000_1, .int .i64 x282001_1, .int .i64 x282002_1] 73 (0, 0)) (nB_ BK281.out) hb); have n2_ := Aside0.mk (below_step (belG_) hb); clear BK280; clear BK281; clear HB; have BK280 := n0_; have BK281 := n1_; have HB := n2_; clear n0_ n1_ n2_; (try clear hb); (try clear hb2); (try clear hk); (try clear hi); have hcz18_0 : w17.cell? ⟨gb280, 0, none⟩ = some (.int .i64 x281000_1) := (blk_cell BK280.out 0).trans rfl; have hcz18_1 : w17.cell? ⟨gb280, 1, none⟩ = some (.int .i64 x281001_1) := (blk_cell BK280.out 1).trans rfl; have hcz18_2 : w17.cell? ⟨gb280, 2, none⟩ = some (.int .i64 x281002_2) := (blk_cell BK280.out 2).trans rfl; have hfz18_0 := blk_frozen BK280.out 0; have hfz18_1 := blk_frozen BK280.out 1; have hfz18_2 := blk_frozen BK280.out 2) | ((with_reducible refine gate_callee (f := 78) rfl ?_); refine goesL_ (some 33) rfl rfl Try.func78 (by kernel_rfl) rfl #[.agg #[.int .i64 x281000_1, .int .i64 x281001_1, .int .i64 x13_2]] rfl ar_ ?_; (with_reducible refine (veils_knot_step.calls x281000_1 x281001_1 x13_2 t284 t285 t286 _ A12.out).mono ?_); rintro e w19 ⟨rfl, hb⟩; refine ⟨_, rfl, ?_⟩; have n0_ := Aside0.mk (blk_below (g := gb280) (o := .cells #[.int .i64 x281000_1, .int .i64 x281001_1, .int .i64 x13_2] 73 (0, 0)) (by (with_reducible repeat (first | refine blk_drewN ?_ _ | refine blk_drew ?_ | refine blk_alloc ?_ _)); refine blk_put (cs := #[.int .i64 x281000_1, .int .i64 x281001_1, .int .i64 x281002_2]) ?_ 2 _ rfl; (with_reducible repeat (first | refine blk_drewN ?_ _ | refine blk_drew ?_ | refine blk_alloc ?_ _)); exact BK280.out) hb); have n1_ := Aside0.mk (blk_below (g := gb281) (o := .cells #[.int .i64 x282000_1, .int .i64 x282001_1, .int .i64 x282002_1] 73 (0, 0)) (by (with_reducible repeat (first | refine blk_drewN ?_ _ | refine blk_drew ?_ | refine blk_alloc ?_ _)); refine blk_far ?_ NB281_280.out _; (with_reducible repeat (first | refine blk_drewN ?_ _ | refine blk_drew ?_ | refine blk_alloc ?_ _)); exact BK281.out) hb); have n2_ := Aside0.mk (below_step (belG_) hb); clear BK280; clear BK281; clear HB; have BK280 := n0_; have BK281 := n1_; have HB := n2_; clear n0_ n1_ n2_; (try clear hb); (try clear hb2); (try clear hk); (try clear hi)) | ((with_reducible refine gate_dst (N := 8) rfl ?_); (try (refine gate_guard (by rfl) ?_; dsimp only)); refine box_event ?hg (N := 8) ?hd (cs := #[.int .i64 0, .int .i64 0, .int .i64 0]) (t := 73) ?hr ?_; (case hd => rfl); (case hg => rfl); (case hr => first | (go_simp; done) | (go_simp; rfl)); intro gb287 hg w20 hbox hb; have n0_ := Aside0.mk (blk_below (g := gb280) (o := .cells #[.int .i64 x281000_1, .int .i64 x281001_1, .int .i64 x13_2] 73 (0, 0)) (nB_ BK280.out) hb); have n1_ := Aside0.mk (blk_below (g := gb281) (o := .cells #[.int .i64 x282000_1, .int .i64 x282001_1, .int .i64 x282002_1] 73 (0, 0)) (nB_ BK281.out) hb); have n2_ := Aside0.mk (below_step (belG_) hb); have n3_ := Aside0.mk (hbox); have n4_ := Aside0.mk ((by rw [hg]; exact (below_size (belG_)) : w.heap.size ≤ gb287)); have n5_ := Aside0.mk ((by rw [hg]; exact (below_size (belG_)) : w.heap.size ≤ gb287)); have n6_ := Aside0.mk ((by rw [hg]; exact Nat.ne_of_lt (blk_lt (g := gb280) (o := .cells #[.int .i64 x281000_1, .int .i64 x281001_1, .int .i64 x13_2] 73 (0, 0)) (nB_ BK280.out)) : gb280 ≠ gb287)); have n7_ := Aside0.mk ((by rw [hg]; exact Nat.ne_of_gt (blk_lt (g := gb280) (o := .cells #[.int .i64 x281000_1, .int .i64 x281001_1, .int .i64 x13_2] 73 (0, 0)) (nB_ BK280.out)) : gb287 ≠ gb280)); have n8_ := Aside0.mk ((by rw [hg]; exact Nat.ne_of_lt (blk_lt (g := gb281) (o := .cells #[.int .i64 x282000_1, .int .i64 x282001_1, .int .i64 x282002_1] 73 (0, 0)) (nB_ BK281.out)) : gb281 ≠ gb287)); have n9_ := Aside0.mk ((by rw [hg]; exact Nat.ne_of_gt (blk_lt (g := gb281) (o := .cells #[.int .i64 x282000_1, .int .i64 x282001_1, .int .i64 x282002_1] 73 (0, 0)) (nB_ BK281.out)) : gb287 ≠ gb281)); clear BK280; clear BK281; clear HB; have BK280 := n0_; have BK281 := n1_; have HB := n2_; have BK287 := n3_; have GW287 := n4_; have GE287 := n5_; have NB280_287 := n6_; have NB287_280 := n7_; have NB281_287 := n8_; have NB287_281 := n9_; clear n0_ n1_ n2_ n3_ n4_ n5_ n6_ n7_ n8_ n9_; clear hb hbox hg; have hnb21 := NB287_280.out; have hnc21 := NB280_287.out; have hnb22 := NB287_281.out; have hnc22 := NB281_287.out; have hcz23_0 : w20.cell? ⟨gb287, 0, none⟩ = some (.int .i64 0) := (blk_cell BK287.out 0).trans rfl; have hcz23_1 : w20.cell? ⟨gb287, 1, none⟩ = some (.int .i64 0) := (blk_cell BK287.out 1).trans rfl; have hcz23_2 : w20.cell? ⟨gb287, 2, none⟩ = some (.int .i64 0) := (blk_cell BK287.out 2).trans rfl; have hfz23_0 := blk_frozen BK287.out 0; have hfz23_1 := blk_frozen BK287.out 1; have hfz23_2 := blk_frozen BK287.out 2; have hcz24_0 : w20.cell? ⟨gb280, 0, none⟩ = some (.int .i64 x281000_1) := (blk_cell BK280.out 0).trans rfl; have hcz24_1 : w20.cell? ⟨gb280, 1, none⟩ = some (.int .i64 x281001_1) := (blk_cell BK280.out 1).trans rfl; have hcz24_2 : w20.cell? ⟨gb280, 2, none⟩ = some (.int .i64 x13_2) := (blk_cell BK280.out 2).trans rfl; have hfz24_0 := blk_frozen BK280.out 0; have hfz24_1 := blk_frozen BK280.out 1; have hfz24_2 := blk_frozen BK280.out 2; have hcz25_0 : w20.cell? ⟨gb281, 0, none⟩ = some (.int .i64 x282000_1) := (blk_cell BK281.out 0).trans rfl; have hcz25_1 : w20.cell? ⟨gb281, 1, none⟩ = some (.int .i64 x282001_1) := (blk_cell BK281.out 1).trans rfl; have hcz25_2 : w20.cell? ⟨gb281, 2, none⟩ = some (.int .i64 x282002_1) := (blk_cell BK281.out 2).trans rfl; have hfz25_0 := blk_frozen BK281.out 0; have hfz25_1 := blk_frozen BK281.out 1; have hfz25_2 := blk_frozen BK281.out 2))
              refine bodyPost_ret (results_cell_row rfl _ _ gb281 73 #[.int .i64 x281000_1, .int .i64 x281001_1, .int .i64 x13_2] (0, 0) _ rfl (by (with_reducible repeat (first | refine blk_drewN ?_ _ | refine blk_drew ?_ | refine blk_alloc ?_ _)); refine blk_put (cs := #[.int .i64 x281000_1, .int .i64 x281001_1, .int .i64 x282002_1]) ?_ 2 _ rfl; (with_reducible repeat (first | refine blk_drewN ?_ _ | refine blk_drew ?_ | refine blk_alloc ?_ _)); refine blk_put (cs := #[.int .i64 x281000_1, .int .i64 x282001_1, .int .i64 x282002_1]) ?_ 1 _ rfl; (with_reducible repeat (first | refine blk_drewN ?_ _ | refine blk_drew ?_ | refine blk_alloc ?_ _)); refine blk_put (cs := #[.int .i64 x282000_1, .int .i64 x282001_1, .int .i64 x282002_1]) ?_ 0 _ rfl; (with_reducible repeat (first | refine blk_drewN ?_ _ | refine blk_drew ?_ | refine blk_alloc ?_ _)); refine blk_far ?_ NB281_287.out _; (with_reducible repeat (first | refine blk_drewN ?_ _ | refine blk_drew ?_ | refine blk_alloc ?_ _)); refine blk_far ?_ NB281_287.out _; (with_reducible repeat (first | refine blk_drewN ?_ _ | refine blk_drew ?_ | refine blk_alloc ?_ _)); refine blk_far ?_ NB281_287.out _; (with_reducible repeat (first | refine blk_drewN ?_ _ | refine blk_drew ?_ | refine blk_alloc ?_ _)); exact BK281.out) Try.underlying73 rfl (by kernel_rfl)) rfl ?_
              exact ⟨by first | rfl | (simp [errW_none, errW_some] <;> rfl) | (simp only [← hji13]; first | rfl | (simp [errW_none, errW_some] <;> rfl)) | (simp [*, errW_none, errW_some] <;> rfl), by repeat (first | (with_reducible first | exact HB.out | apply below_alloc | apply pw_below_drewN | apply below_drew1 | refine below_set ?_ GE280.out | refine below_set ?_ GE281.out | refine below_set ?_ GE287.out) | exact HB.out)⟩
            · rw [if_neg c14] at H
              have c14b0 : decide ((ji13) < 1) = false := decide_eq_false c14
              clear c14
              obtain ⟨ji26, hji26⟩ : ∃ j_ : Int, (mx t284 t285) = j_ := ⟨_, rfl⟩
              replace H : (if (ji26) > t282 then (some (x281000_1, x281001_1, x13_2)) else (veils_heights_follow.l0 k2 l0 t282 t284 t285 t286)) = some (r1, r2, r3) := by first | (rw [hji26] at H; exact H) | (simp only [hji26] at H ⊢; exact H)
              (try rw [hji26] at A10)
              (try rw [hji26] at A12)
              have hji26_ : (if t284 < t285 then t285 else t284) = ji26 := hji26
              by_cases c27 : (ji26) > t282
              · rw [if_pos c27] at H
                have c27b0 : decide (t282 < (ji26)) = true := decide_eq_true c27
                clear c27
                simp only [Option.some.injEq, Prod.mk.injEq] at H
                obtain ⟨rfl, rfl, rfl⟩ := H
                have hnb28 := NB280_281.out
                have hnc28 := NB281_280.out
                have hcz29_0 : wr.cell? ⟨gb280, 0, none⟩ = some (.int .i64 x281000_1) := (blk_cell BK280.out 0).trans rfl
                have hcz29_1 : wr.cell? ⟨gb280, 1, none⟩ = some (.int .i64 x281001_1) := (blk_cell BK280.out 1).trans rfl
                have hcz29_2 : wr.cell? ⟨gb280, 2, none⟩ = some (.int .i64 x281002_2) := (blk_cell BK280.out 2).trans rfl
                have hfz29_0 := blk_frozen BK280.out 0
                have hfz29_1 := blk_frozen BK280.out 1
                have hfz29_2 := blk_frozen BK280.out 2
                go_wp2_with (first | (go_at_call 77; (with_reducible refine (veils_heights_thread.calls _ _ l0 x281000_1 x281001_1 x13_2 true _ ?side1 ?side2 A10.out).mono ?_); (case side1 => repeat (first | exact (Kd.C_below HR0.out HB.out) | (with_reducible refine Kd.C_alloc ?_ _) | (with_reducible refine Kd.C_drewN ?_ _) | (with_reducible refine Kd.C_drew ?_))); (case side2 => exact HC0.out); rintro e w30 ⟨rfl, hb⟩; have n0_ := Aside0.mk (blk_below (g := gb280) (o := .cells #[.int .i64 x281000_1, .int .i64 x281001_1, .int .i64 x281002_2] 73 (0, 0)) (nB_ BK280.out) hb); have n1_ := Aside0.mk (blk_below (g := gb281) (o := .cells #[.int .i64 x282000_1, .int .i64 x282001_1, .int .i64 x282002_1] 73 (0, 0)) (nB_ BK281.out) hb); have n2_ := Aside0.mk (below_step (belG_) hb); clear BK280; clear BK281; clear HB; have BK280 := n0_; have BK281 := n1_; have HB := n2_; clear n0_ n1_ n2_; (try clear hb); (try clear hb2); (try clear hk); (try clear hi); have hcz31_0 : w30.cell? ⟨gb280, 0, none⟩ = some (.int .i64 x281000_1) := (blk_cell BK280.out 0).trans rfl; have hcz31_1 : w30.cell? ⟨gb280, 1, none⟩ = some (.int .i64 x281001_1) := (blk_cell BK280.out 1).trans rfl; have hcz31_2 : w30.cell? ⟨gb280, 2, none⟩ = some (.int .i64 x281002_2) := (blk_cell BK280.out 2).trans rfl; have hfz31_0 := blk_frozen BK280.out 0; have hfz31_1 := blk_frozen BK280.out 1; have hfz31_2 := blk_frozen BK280.out 2) | ((with_reducible refine gate_callee (f := 78) rfl ?_); refine goesL_ (some 33) rfl rfl Try.func78 (by kernel_rfl) rfl #[.agg #[.int .i64 x281000_1, .int .i64 x281001_1, .int .i64 x13_2]] rfl ar_ ?_; (with_reducible refine (veils_knot_step.calls x281000_1 x281001_1 x13_2 t284 t285 t286 _ A12.out).mono ?_); rintro e w32 ⟨rfl, hb⟩; refine ⟨_, rfl, ?_⟩; have n0_ := Aside0.mk (blk_below (g := gb280) (o := .cells #[.int .i64 x281000_1, .int .i64 x281001_1, .int .i64 x13_2] 73 (0, 0)) (by (with_reducible repeat (first | refine blk_drewN ?_ _ | refine blk_drew ?_ | refine blk_alloc ?_ _)); refine blk_put (cs := #[.int .i64 x281000_1, .int .i64 x281001_1, .int .i64 x281002_2]) ?_ 2 _ rfl; (with_reducible repeat (first | refine blk_drewN ?_ _ | refine blk_drew ?_ | refine blk_alloc ?_ _)); exact BK280.out) hb); have n1_ := Aside0.mk (blk_below (g := gb281) (o := .cells #[.int .i64 x282000_1, .int .i64 x282001_1, .int .i64 x282002_1] 73 (0, 0)) (by (with_reducible repeat (first | refine blk_drewN ?_ _ | refine blk_drew ?_ | refine blk_alloc ?_ _)); refine blk_far ?_ NB281_280.out _; (with_reducible repeat (first | refine blk_drewN ?_ _ | refine blk_drew ?_ | refine blk_alloc ?_ _)); exact BK281.out) hb); have n2_ := Aside0.mk (below_step (belG_) hb); clear BK280; clear BK281; clear HB; have BK280 := n0_; have BK281 := n1_; have HB := n2_; clear n0_ n1_ n2_; (try clear hb); (try clear hb2); (try clear hk); (try clear hi)) | ((with_reducible refine gate_dst (N := 8) rfl ?_); (try (refine gate_guard (by rfl) ?_; dsimp only)); refine box_event ?hg (N := 8) ?hd (cs := #[.int .i64 0, .int .i64 0, .int .i64 0]) (t := 73) ?hr ?_; (case hd => rfl); (case hg => rfl); (case hr => first | (go_simp; done) | (go_simp; rfl)); intro gb287 hg w33 hbox hb; have n0_ := Aside0.mk (blk_below (g := gb280) (o := .cells #[.int .i64 x281000_1, .int .i64 x281001_1, .int .i64 x13_2] 73 (0, 0)) (nB_ BK280.out) hb); have n1_ := Aside0.mk (blk_below (g := gb281) (o := .cells #[.int .i64 x282000_1, .int .i64 x282001_1, .int .i64 x282002_1] 73 (0, 0)) (nB_ BK281.out) hb); have n2_ := Aside0.mk (below_step (belG_) hb); have n3_ := Aside0.mk (hbox); have n4_ := Aside0.mk ((by rw [hg]; exact (below_size (belG_)) : w.heap.size ≤ gb287)); have n5_ := Aside0.mk ((by rw [hg]; exact (below_size (belG_)) : w.heap.size ≤ gb287)); have n6_ := Aside0.mk ((by rw [hg]; exact Nat.ne_of_lt (blk_lt (g := gb280) (o := .cells #[.int .i64 x281000_1, .int .i64 x281001_1, .int .i64 x13_2] 73 (0, 0)) (nB_ BK280.out)) : gb280 ≠ gb287)); have n7_ := Aside0.mk ((by rw [hg]; exact Nat.ne_of_gt (blk_lt (g := gb280) (o := .cells #[.int .i64 x281000_1, .int .i64 x281001_1, .int .i64 x13_2] 73 (0, 0)) (nB_ BK280.out)) : gb287 ≠ gb280)); have n8_ := Aside0.mk ((by rw [hg]; exact Nat.ne_of_lt (blk_lt (g := gb281) (o := .cells #[.int .i64 x282000_1, .int .i64 x282001_1, .int .i64 x282002_1] 73 (0, 0)) (nB_ BK281.out)) : gb281 ≠ gb287)); have n9_ := Aside0.mk ((by rw [hg]; exact Nat.ne_of_gt (blk_lt (g := gb281) (o := .cells #[.int .i64 x282000_1, .int .i64 x282001_1, .int .i64 x282002_1] 73 (0, 0)) (nB_ BK281.out)) : gb287 ≠ gb281)); clear BK280; clear BK281; clear HB; have BK280 := n0_; have BK281 := n1_; have HB := n2_; have BK287 := n3_; have GW287 := n4_; have GE287 := n5_; have NB280_287 := n6_; have NB287_280 := n7_; have NB281_287 := n8_; have NB287_281 := n9_; clear n0_ n1_ n2_ n3_ n4_ n5_ n6_ n7_ n8_ n9_; clear hb hbox hg; have hnb34 := NB287_280.out; have hnc34 := NB280_287.out; have hnb35 := NB287_281.out; have hnc35 := NB281_287.out; have hcz36_0 : w33.cell? ⟨gb287, 0, none⟩ = some (.int .i64 0) := (blk_cell BK287.out 0).trans rfl; have hcz36_1 : w33.cell? ⟨gb287, 1, none⟩ = some (.int .i64 0) := (blk_cell BK287.out 1).trans rfl; have hcz36_2 : w33.cell? ⟨gb287, 2, none⟩ = some (.int .i64 0) := (blk_cell BK287.out 2).trans rfl; have hfz36_0 := blk_frozen BK287.out 0; have hfz36_1 := blk_frozen BK287.out 1; have hfz36_2 := blk_frozen BK287.out 2; have hcz37_0 : w33.cell? ⟨gb280, 0, none⟩ = some (.int .i64 x281000_1) := (blk_cell BK280.out 0).trans rfl; have hcz37_1 : w33.cell? ⟨gb280, 1, none⟩ = some (.int .i64 x281001_1) := (blk_cell BK280.out 1).trans rfl; have hcz37_2 : w33.cell? ⟨gb280, 2, none⟩ = some (.int .i64 x13_2) := (blk_cell BK280.out 2).trans rfl; have hfz37_0 := blk_frozen BK280.out 0; have hfz37_1 := blk_frozen BK280.out 1; have hfz37_2 := blk_frozen BK280.out 2; have hcz38_0 : w33.cell? ⟨gb281, 0, none⟩ = some (.int .i64 x282000_1) := (blk_cell BK281.out 0).trans rfl; have hcz38_1 : w33.cell? ⟨gb281, 1, none⟩ = some (.int .i64 x282001_1) := (blk_cell BK281.out 1).trans rfl; have hcz38_2 : w33.cell? ⟨gb281, 2, none⟩ = some (.int .i64 x282002_1) := (blk_cell BK281.out 2).trans rfl; have hfz38_0 := blk_frozen BK281.out 0; have hfz38_1 := blk_frozen BK281.out 1; have hfz38_2 := blk_frozen BK281.out 2))
                refine bodyPost_ret (results_cell_row rfl _ _ gb281 73 #[.int .i64 x281000_1, .int .i64 x281001_1, .int .i64 x13_2] (0, 0) _ rfl (by (with_reducible repeat (first | refine blk_drewN ?_ _ | refine blk_drew ?_ | refine blk_alloc ?_ _)); refine blk_put (cs := #[.int .i64 x281000_1, .int .i64 x281001_1, .int .i64 x282002_1]) ?_ 2 _ rfl; (with_reducible repeat (first | refine blk_drewN ?_ _ | refine blk_drew ?_ | refine blk_alloc ?_ _)); refine blk_put (cs := #[.int .i64 x281000_1, .int .i64 x282001_1, .int .i64 x282002_1]) ?_ 1 _ rfl; (with_reducible repeat (first | refine blk_drewN ?_ _ | refine blk_drew ?_ | refine blk_alloc ?_ _)); refine blk_put (cs := #[.int .i64 x282000_1, .int .i64 x282001_1, .int .i64 x282002_1]) ?_ 0 _ rfl; (with_reducible repeat (first | refine blk_drewN ?_ _ | refine blk_drew ?_ | refine blk_alloc ?_ _)); refine blk_far ?_ NB281_287.out _; (with_reducible repeat (first | refine blk_drewN ?_ _ | refine blk_drew ?_ | refine blk_alloc ?_ _)); refine blk_far ?_ NB281_287.out _; (with_reducible repeat (first | refine blk_drewN ?_ _ | refine blk_drew ?_ | refine blk_alloc ?_ _)); refine blk_far ?_ NB281_287.out _; (with_reducible repeat (first | refine blk_drewN ?_ _ | refine blk_drew ?_ | refine blk_alloc ?_ _)); exact BK281.out) Try.underlying73 rfl (by kernel_rfl)) rfl ?_
                exact ⟨by first | rfl | (simp [errW_none, errW_some] <;> rfl) | (simp only [← hji13, ← hji26]; first | rfl | (simp [errW_none, errW_some] <;> rfl)) | (simp [*, errW_none, errW_some] <;> rfl), by repeat (first | (with_reducible first | exact HB.out | apply below_alloc | apply pw_below_drewN | apply below_drew1 | refine below_set ?_ GE280.out | refine below_set ?_ GE281.out | refine below_set ?_ GE287.out) | exact HB.out)⟩
              · rw [if_neg c27] at H
                have c27b0 : decide (t282 < (ji26)) = false := decide_eq_false c27
                clear c27
                have H' := Aside0.mk H
                clear H
                have hnb39 := NB280_281.out
                have hnc39 := NB281_280.out
                have hcz40_0 : wr.cell? ⟨gb280, 0, none⟩ = some (.int .i64 x281000_1) := (blk_cell BK280.out 0).trans rfl
                have hcz40_1 : wr.cell? ⟨gb280, 1, none⟩ = some (.int .i64 x281001_1) := (blk_cell BK280.out 1).trans rfl
                have hcz40_2 : wr.cell? ⟨gb280, 2, none⟩ = some (.int .i64 x281002_2) := (blk_cell BK280.out 2).trans rfl
                have hfz40_0 := blk_frozen BK280.out 0
                have hfz40_1 := blk_frozen BK280.out 1
                have hfz40_2 := blk_frozen BK280.out 2
                go_wp2_with (first | (go_at_call 77; (with_reducible refine (veils_heights_thread.calls _ _ l0 x281000_1 x281001_1 x13_2 true _ ?side1 ?side2 A10.out).mono ?_); (case side1 => repeat (first | exact (Kd.C_below HR0.out HB.out) | (with_reducible refine Kd.C_alloc ?_ _) | (with_reducible refine Kd.C_drewN ?_ _) | (with_reducible refine Kd.C_drew ?_))); (case side2 => exact HC0.out); rintro e w41 ⟨rfl, hb⟩; have n0_ := Aside0.mk (blk_below (g := gb280) (o := .cells #[.int .i64 x281000_1, .int .i64 x281001_1, .int .i64 x281002_2] 73 (0, 0)) (nB_ BK280.out) hb); have n1_ := Aside0.mk (blk_below (g := gb281) (o := .cells #[.int .i64 x282000_1, .int .i64 x282001_1, .int .i64 x282002_1] 73 (0, 0)) (nB_ BK281.out) hb); have n2_ := Aside0.mk (below_step (belG_) hb); clear BK280; clear BK281; clear HB; have BK280 := n0_; have BK281 := n1_; have HB := n2_; clear n0_ n1_ n2_; (try clear hb); (try clear hb2); (try clear hk); (try clear hi); have hcz42_0 : w41.cell? ⟨gb280, 0, none⟩ = some (.int .i64 x281000_1) := (blk_cell BK280.out 0).trans rfl; have hcz42_1 : w41.cell? ⟨gb280, 1, none⟩ = some (.int .i64 x281001_1) := (blk_cell BK280.out 1).trans rfl; have hcz42_2 : w41.cell? ⟨gb280, 2, none⟩ = some (.int .i64 x281002_2) := (blk_cell BK280.out 2).trans rfl; have hfz42_0 := blk_frozen BK280.out 0; have hfz42_1 := blk_frozen BK280.out 1; have hfz42_2 := blk_frozen BK280.out 2) | ((with_reducible refine gate_callee (f := 78) rfl ?_); refine goesL_ (some 33) rfl rfl Try.func78 (by kernel_rfl) rfl #[.agg #[.int .i64 x281000_1, .int .i64 x281001_1, .int .i64 x13_2]] rfl ar_ ?_; (with_reducible refine (veils_knot_step.calls x281000_1 x281001_1 x13_2 t284 t285 t286 _ A12.out).mono ?_); rintro e w43 ⟨rfl, hb⟩; refine ⟨_, rfl, ?_⟩; have n0_ := Aside0.mk (blk_below (g := gb280) (o := .cells #[.int .i64 x281000_1, .int .i64 x281001_1, .int .i64 x13_2] 73 (0, 0)) (by (with_reducible repeat (first | refine blk_drewN ?_ _ | refine blk_drew ?_ | refine blk_alloc ?_ _)); refine blk_put (cs := #[.int .i64 x281000_1, .int .i64 x281001_1, .int .i64 x281002_2]) ?_ 2 _ rfl; (with_reducible repeat (first | refine blk_drewN ?_ _ | refine blk_drew ?_ | refine blk_alloc ?_ _)); exact BK280.out) hb); have n1_ := Aside0.mk (blk_below (g := gb281) (o := .cells #[.int .i64 x282000_1, .int .i64 x282001_1, .int .i64 x282002_1] 73 (0, 0)) (by (with_reducible repeat (first | refine blk_drewN ?_ _ | refine blk_drew ?_ | refine blk_alloc ?_ _)); refine blk_far ?_ NB281_280.out _; (with_reducible repeat (first | refine blk_drewN ?_ _ | refine blk_drew ?_ | refine blk_alloc ?_ _)); exact BK281.out) hb); have n2_ := Aside0.mk (below_step (belG_) hb); clear BK280; clear BK281; clear HB; have BK280 := n0_; have BK281 := n1_; have HB := n2_; clear n0_ n1_ n2_; (try clear hb); (try clear hb2); (try clear hk); (try clear hi)) | ((with_reducible refine gate_dst (N := 8) rfl ?_); (try (refine gate_guard (by rfl) ?_; dsimp only)); refine box_event ?hg (N := 8) ?hd (cs := #[.int .i64 0, .int .i64 0, .int .i64 0]) (t := 73) ?hr ?_; (case hd => rfl); (case hg => rfl); (case hr => first | (go_simp; done) | (go_simp; rfl)); intro gb287 hg w44 hbox hb; have n0_ := Aside0.mk (blk_below (g := gb280) (o := .cells #[.int .i64 x281000_1, .int .i64 x281001_1, .int .i64 x13_2] 73 (0, 0)) (nB_ BK280.out) hb); have n1_ := Aside0.mk (blk_below (g := gb281) (o := .cells #[.int .i64 x282000_1, .int .i64 x282001_1, .int .i64 x282002_1] 73 (0, 0)) (nB_ BK281.out) hb); have n2_ := Aside0.mk (below_step (belG_) hb); have n3_ := Aside0.mk (hbox); have n4_ := Aside0.mk ((by rw [hg]; exact (below_size (belG_)) : w.heap.size ≤ gb287)); have n5_ := Aside0.mk ((by rw [hg]; exact (below_size (belG_)) : w.heap.size ≤ gb287)); have n6_ := Aside0.mk ((by rw [hg]; exact Nat.ne_of_lt (blk_lt (g := gb280) (o := .cells #[.int .i64 x281000_1, .int .i64 x281001_1, .int .i64 x13_2] 73 (0, 0)) (nB_ BK280.out)) : gb280 ≠ gb287)); have n7_ := Aside0.mk ((by rw [hg]; exact Nat.ne_of_gt (blk_lt (g := gb280) (o := .cells #[.int .i64 x281000_1, .int .i64 x281001_1, .int .i64 x13_2] 73 (0, 0)) (nB_ BK280.out)) : gb287 ≠ gb280)); have n8_ := Aside0.mk ((by rw [hg]; exact Nat.ne_of_lt (blk_lt (g := gb281) (o := .cells #[.int .i64 x282000_1, .int .i64 x282001_1, .int .i64 x282002_1] 73 (0, 0)) (nB_ BK281.out)) : gb281 ≠ gb287)); have n9_ := Aside0.mk ((by rw [hg]; exact Nat.ne_of_gt (blk_lt (g := gb281) (o := .cells #[.int .i64 x282000_1, .int .i64 x282001_1, .int .i64 x282002_1] 73 (0, 0)) (nB_ BK281.out)) : gb287 ≠ gb281)); clear BK280; clear BK281; clear HB; have BK280 := n0_; have BK281 := n1_; have HB := n2_; have BK287 := n3_; have GW287 := n4_; have GE287 := n5_; have NB280_287 := n6_; have NB287_280 := n7_; have NB281_287 := n8_; have NB287_281 := n9_; clear n0_ n1_ n2_ n3_ n4_ n5_ n6_ n7_ n8_ n9_; clear hb hbox hg; have hnb45 := NB287_280.out; have hnc45 := NB280_287.out; have hnb46 := NB287_281.out; have hnc46 := NB281_287.out; have hcz47_0 : w44.cell? ⟨gb287, 0, none⟩ = some (.int .i64 0) := (blk_cell BK287.out 0).trans rfl; have hcz47_1 : w44.cell? ⟨gb287, 1, none⟩ = some (.int .i64 0) := (blk_cell BK287.out 1).trans rfl; have hcz47_2 : w44.cell? ⟨gb287, 2, none⟩ = some (.int .i64 0) := (blk_cell BK287.out 2).trans rfl; have hfz47_0 := blk_frozen BK287.out 0; have hfz47_1 := blk_frozen BK287.out 1; have hfz47_2 := blk_frozen BK287.out 2; have hcz48_0 : w44.cell? ⟨gb280, 0, none⟩ = some (.int .i64 x281000_1) := (blk_cell BK280.out 0).trans rfl; have hcz48_1 : w44.cell? ⟨gb280, 1, none⟩ = some (.int .i64 x281001_1) := (blk_cell BK280.out 1).trans rfl; have hcz48_2 : w44.cell? ⟨gb280, 2, none⟩ = some (.int .i64 x13_2) := (blk_cell BK280.out 2).trans rfl; have hfz48_0 := blk_frozen BK280.out 0; have hfz48_1 := blk_frozen BK280.out 1; have hfz48_2 := blk_frozen BK280.out 2))
                go_roundg k2
                case measure => have := HK1.out; have := HK2.out; omega
                case rel => exact ⟨(t284), (t285), (t286), (x282000_1), (x282001_1), (x282002_1), H', ⟨by have := HK1.out; have := HK2.out; omega⟩, ⟨by (with_reducible repeat (first | refine blk_drewN ?_ _ | refine blk_drew ?_ | refine blk_alloc ?_ _)); refine blk_put (cs := #[.int .i64 t284, .int .i64 t285, .int .i64 x13_2]) ?_ 2 _ rfl; (with_reducible repeat (first | refine blk_drewN ?_ _ | refine blk_drew ?_ | refine blk_alloc ?_ _)); refine blk_put (cs := #[.int .i64 t284, .int .i64 x281001_1, .int .i64 x13_2]) ?_ 1 _ rfl; (with_reducible repeat (first | refine blk_drewN ?_ _ | refine blk_drew ?_ | refine blk_alloc ?_ _)); refine blk_put (cs := #[.int .i64 x281000_1, .int .i64 x281001_1, .int .i64 x13_2]) ?_ 0 _ rfl; (with_reducible repeat (first | refine blk_drewN ?_ _ | refine blk_drew ?_ | refine blk_alloc ?_ _)); refine blk_far ?_ NB280_287.out _; (with_reducible repeat (first | refine blk_drewN ?_ _ | refine blk_drew ?_ | refine blk_alloc ?_ _)); refine blk_far ?_ NB280_287.out _; (with_reducible repeat (first | refine blk_drewN ?_ _ | refine blk_drew ?_ | refine blk_alloc ?_ _)); refine blk_far ?_ NB280_287.out _; (with_reducible repeat (first | refine blk_drewN ?_ _ | refine blk_drew ?_ | refine blk_alloc ?_ _)); exact BK280.out⟩, ⟨by (with_reducible repeat (first | refine blk_drewN ?_ _ | refine blk_drew ?_ | refine blk_alloc ?_ _)); refine blk_far ?_ NB281_280.out _; (with_reducible repeat (first | refine blk_drewN ?_ _ | refine blk_drew ?_ | refine blk_alloc ?_ _)); refine blk_far ?_ NB281_280.out _; (with_reducible repeat (first | refine blk_drewN ?_ _ | refine blk_drew ?_ | refine blk_alloc ?_ _)); refine blk_far ?_ NB281_280.out _; (with_reducible repeat (first | refine blk_drewN ?_ _ | refine blk_drew ?_ | refine blk_alloc ?_ _)); refine blk_far ?_ NB281_287.out _; (with_reducible repeat (first | refine blk_drewN ?_ _ | refine blk_drew ?_ | refine blk_alloc ?_ _)); refine blk_far ?_ NB281_287.out _; (with_reducible repeat (first | refine blk_drewN ?_ _ | refine blk_drew ?_ | refine blk_alloc ?_ _)); refine blk_far ?_ NB281_287.out _; (with_reducible repeat (first | refine blk_drewN ?_ _ | refine blk_drew ?_ | refine blk_alloc ?_ _)); exact BK281.out⟩, ⟨by repeat (first | (with_reducible first | exact HB.out | apply below_alloc | apply pw_below_drewN | apply below_drew1 | refine below_set ?_ GE280.out | refine below_set ?_ GE281.out | refine below_set ?_ GE287.out) | exact HB.out)⟩⟩
          · replace c11 := Bool.eq_false_iff.mpr c11
            subst c11
            have H1 : (veils_heights_follow.l1 k2 l0 t282 x281002_1 (wrap64 (x13_2 + 1)) x281000_1 x281001_1 x281002_2) = some (r1, r2, r3) := by rw [if_neg (show ¬ (false = true) by decide)] at H; exact H
            clear H
            have H := H1
            clear H1
            have H' := Aside0.mk H
            clear H
            have hnb49 := NB280_281.out
            have hnc49 := NB281_280.out
            have hcz50_0 : wr.cell? ⟨gb280, 0, none⟩ = some (.int .i64 x281000_1) := (blk_cell BK280.out 0).trans rfl
            have hcz50_1 : wr.cell? ⟨gb280, 1, none⟩ = some (.int .i64 x281001_1) := (blk_cell BK280.out 1).trans rfl
            have hcz50_2 : wr.cell? ⟨gb280, 2, none⟩ = some (.int .i64 x281002_2) := (blk_cell BK280.out 2).trans rfl
            have hfz50_0 := blk_frozen BK280.out 0
            have hfz50_1 := blk_frozen BK280.out 1
            have hfz50_2 := blk_frozen BK280.out 2
            go_wp2_with (first | (go_at_call 77; (with_reducible refine (veils_heights_thread.calls _ _ l0 x281000_1 x281001_1 x13_2 false _ ?side1 ?side2 A10.out).mono ?_); (case side1 => repeat (first | exact (Kd.C_below HR0.out HB.out) | (with_reducible refine Kd.C_alloc ?_ _) | (with_reducible refine Kd.C_drewN ?_ _) | (with_reducible refine Kd.C_drew ?_))); (case side2 => exact HC0.out); rintro e w51 ⟨rfl, hb⟩; have n0_ := Aside0.mk (blk_below (g := gb280) (o := .cells #[.int .i64 x281000_1, .int .i64 x281001_1, .int .i64 x281002_2] 73 (0, 0)) (nB_ BK280.out) hb); have n1_ := Aside0.mk (blk_below (g := gb281) (o := .cells #[.int .i64 x282000_1, .int .i64 x282001_1, .int .i64 x282002_1] 73 (0, 0)) (nB_ BK281.out) hb); have n2_ := Aside0.mk (below_step (belG_) hb); clear BK280; clear BK281; clear HB; have BK280 := n0_; have BK281 := n1_; have HB := n2_; clear n0_ n1_ n2_; (try clear hb); (try clear hb2); (try clear hk); (try clear hi)))
            go_roundg k2
            case measure => have := HK1.out; have := HK2.out; omega
            case rel => exact ⟨(wrap64 (x13_2 + 1)), (x281002_2), rf_, H', ⟨by have := HK1.out; have := HK2.out; omega⟩, ⟨nB_ BK280.out⟩, ⟨nB_ BK281.out⟩, ⟨belG_⟩⟩
      · rw [if_neg c8] at H
        have c8b0 : decide (x13_2 < 4) = false := decide_eq_false c8
        clear c8
        replace H := Option.bind_eq_some_iff.mp H
        obtain ⟨⟨t288, t289, t290⟩, A520, H⟩ := H
        replace H : (if (mn t288 t289) < 1 then (some (x281000_1, x281001_1, x281002_2)) else (if (mx t288 t289) > t282 then (some (x281000_1, x281001_1, x281002_2)) else (veils_heights_follow.l0 k2 l0 t282 t288 t289 t290))) = some (r1, r2, r3) := H
        have A52 := Aside0.mk A520
        clear A520
        obtain ⟨ji53, hji53⟩ : ∃ j_ : Int, (mn t288 t289) = j_ := ⟨_, rfl⟩
        replace H : (if (ji53) < 1 then (some (x281000_1, x281001_1, x281002_2)) else (if (mx t288 t289) > t282 then (some (x281000_1, x281001_1, x281002_2)) else (veils_heights_follow.l0 k2 l0 t282 t288 t289 t290))) = some (r1, r2, r3) := by first | (rw [hji53] at H; exact H) | (simp only [hji53] at H ⊢; exact H)
        (try rw [hji53] at A52)
        have hji53_ : (if t289 < t288 then t289 else t288) = ji53 := hji53
        by_cases c54 : (ji53) < 1
        · rw [if_pos c54] at H
          have c54b0 : decide ((ji53) < 1) = true := decide_eq_true c54
          clear c54
          simp only [Option.some.injEq, Prod.mk.injEq] at H
          obtain ⟨rfl, rfl, rfl⟩ := H
          have hnb55 := NB280_281.out
          have hnc55 := NB281_280.out
          have hcz56_0 : wr.cell? ⟨gb280, 0, none⟩ = some (.int .i64 x281000_1) := (blk_cell BK280.out 0).trans rfl
          have hcz56_1 : wr.cell? ⟨gb280, 1, none⟩ = some (.int .i64 x281001_1) := (blk_cell BK280.out 1).trans rfl
          have hcz56_2 : wr.cell? ⟨gb280, 2, none⟩ = some (.int .i64 x281002_2) := (blk_cell BK280.out 2).trans rfl
          have hfz56_0 := blk_frozen BK280.out 0
          have hfz56_1 := blk_frozen BK280.out 1
          have hfz56_2 := blk_frozen BK280.out 2
          go_wp2_with (first | ((with_reducible refine gate_callee (f := 78) rfl ?_); refine goesL_ (some 33) rfl rfl Try.func78 (by kernel_rfl) rfl #[.agg #[.int .i64 x281000_1, .int .i64 x281001_1, .int .i64 x281002_2]] rfl ar_ ?_; (with_reducible refine (veils_knot_step.calls x281000_1 x281001_1 x281002_2 t288 t289 t290 _ A52.out).mono ?_); rintro e w57 ⟨rfl, hb⟩; refine ⟨_, rfl, ?_⟩; have n0_ := Aside0.mk (blk_below (g := gb280) (o := .cells #[.int .i64 x281000_1, .int .i64 x281001_1, .int .i64 x281002_2] 73 (0, 0)) (nB_ BK280.out) hb); have n1_ := Aside0.mk (blk_below (g := gb281) (o := .cells #[.int .i64 x282000_1, .int .i64 x282001_1, .int .i64 x282002_1] 73 (0, 0)) (nB_ BK281.out) hb); have n2_ := Aside0.mk (below_step (belG_) hb); clear BK280; clear BK281; clear HB; have BK280 := n0_; have BK281 := n1_; have HB := n2_; clear n0_ n1_ n2_; (try clear hb); (try clear hb2); (try clear hk); (try clear hi)) | ((with_reducible refine gate_dst (N := 8) rfl ?_); (try (refine gate_guard (by rfl) ?_; dsimp only)); refine box_event ?hg (N := 8) ?hd (cs := #[.int .i64 0, .int .i64 0, .int .i64 0]) (t := 73) ?hr ?_; (case hd => rfl); (case hg => rfl); (case hr => first | (go_simp; done) | (go_simp; rfl)); intro gb291 hg w58 hbox hb; have n0_ := Aside0.mk (blk_below (g := gb280) (o := .cells #[.int .i64 x281000_1, .int .i64 x281001_1, .int .i64 x281002_2] 73 (0, 0)) (nB_ BK280.out) hb); have n1_ := Aside0.mk (blk_below (g := gb281) (o := .cells #[.int .i64 x282000_1, .int .i64 x282001_1, .int .i64 x282002_1] 73 (0, 0)) (nB_ BK281.out) hb); have n2_ := Aside0.mk (below_step (belG_) hb); have n3_ := Aside0.mk (hbox); have n4_ := Aside0.mk ((by rw [hg]; exact (below_size (belG_)) : w.heap.size ≤ gb291)); have n5_ := Aside0.mk ((by rw [hg]; exact (below_size (belG_)) : w.heap.size ≤ gb291)); have n6_ := Aside0.mk ((by rw [hg]; exact Nat.ne_of_lt (blk_lt (g := gb280) (o := .cells #[.int .i64 x281000_1, .int .i64 x281001_1, .int .i64 x281002_2] 73 (0, 0)) (nB_ BK280.out)) : gb280 ≠ gb291)); have n7_ := Aside0.mk ((by rw [hg]; exact Nat.ne_of_gt (blk_lt (g := gb280) (o := .cells #[.int .i64 x281000_1, .int .i64 x281001_1, .int .i64 x281002_2] 73 (0, 0)) (nB_ BK280.out)) : gb291 ≠ gb280)); have n8_ := Aside0.mk ((by rw [hg]; exact Nat.ne_of_lt (blk_lt (g := gb281) (o := .cells #[.int .i64 x282000_1, .int .i64 x282001_1, .int .i64 x282002_1] 73 (0, 0)) (nB_ BK281.out)) : gb281 ≠ gb291)); have n9_ := Aside0.mk ((by rw [hg]; exact Nat.ne_of_gt (blk_lt (g := gb281) (o := .cells #[.int .i64 x282000_1, .int .i64 x282001_1, .int .i64 x282002_1] 73 (0, 0)) (nB_ BK281.out)) : gb291 ≠ gb281)); clear BK280; clear BK281; clear HB; have BK280 := n0_; have BK281 := n1_; have HB := n2_; have BK291 := n3_; have GW291 := n4_; have GE291 := n5_; have NB280_291 := n6_; have NB291_280 := n7_; have NB281_291 := n8_; have NB291_281 := n9_; clear n0_ n1_ n2_ n3_ n4_ n5_ n6_ n7_ n8_ n9_; clear hb hbox hg; have hnb59 := NB291_280.out; have hnc59 := NB280_291.out; have hnb60 := NB291_281.out; have hnc60 := NB281_291.out; have hcz61_0 : w58.cell? ⟨gb291, 0, none⟩ = some (.int .i64 0) := (blk_cell BK291.out 0).trans rfl; have hcz61_1 : w58.cell? ⟨gb291, 1, none⟩ = some (.int .i64 0) := (blk_cell BK291.out 1).trans rfl; have hcz61_2 : w58.cell? ⟨gb291, 2, none⟩ = some (.int .i64 0) := (blk_cell BK291.out 2).trans rfl; have hfz61_0 := blk_frozen BK291.out 0; have hfz61_1 := blk_frozen BK291.out 1; have hfz61_2 := blk_frozen BK291.out 2; have hcz62_0 : w58.cell? ⟨gb280, 0, none⟩ = some (.int .i64 x281000_1) := (blk_cell BK280.out 0).trans rfl; have hcz62_1 : w58.cell? ⟨gb280, 1, none⟩ = some (.int .i64 x281001_1) := (blk_cell BK280.out 1).trans rfl; have hcz62_2 : w58.cell? ⟨gb280, 2, none⟩ = some (.int .i64 x281002_2) := (blk_cell BK280.out 2).trans rfl; have hfz62_0 := blk_frozen BK280.out 0; have hfz62_1 := blk_frozen BK280.out 1; have hfz62_2 := blk_frozen BK280.out 2; have hcz63_0 : w58.cell? ⟨gb281, 0, none⟩ = some (.int .i64 x282000_1) := (blk_cell BK281.out 0).trans rfl; have hcz63_1 : w58.cell? ⟨gb281, 1, none⟩ = some (.int .i64 x282001_1) := (blk_cell BK281.out 1).trans rfl; have hcz63_2 : w58.cell? ⟨gb281, 2, none⟩ = some (.int .i64 x282002_1) := (blk_cell BK281.out 2).trans rfl; have hfz63_0 := blk_frozen BK281.out 0; have hfz63_1 := blk_frozen BK281.out 1; have hfz63_2 := blk_frozen BK281.out 2))
          refine bodyPost_ret (results_cell_row rfl _ _ gb281 73 #[.int .i64 x281000_1, .int .i64 x281001_1, .int .i64 x281002_2] (0, 0) _ rfl (by (with_reducible repeat (first | refine blk_drewN ?_ _ | refine blk_drew ?_ | refine blk_alloc ?_ _)); refine blk_put (cs := #[.int .i64 x281000_1, .int .i64 x281001_1, .int .i64 x282002_1]) ?_ 2 _ rfl; (with_reducible repeat (first | refine blk_drewN ?_ _ | refine blk_drew ?_ | refine blk_alloc ?_ _)); refine blk_put (cs := #[.int .i64 x281000_1, .int .i64 x282001_1, .int .i64 x282002_1]) ?_ 1 _ rfl; (with_reducible repeat (first | refine blk_drewN ?_ _ | refine blk_drew ?_ | refine blk_alloc ?_ _)); refine blk_put (cs := #[.int .i64 x282000_1, .int .i64 x282001_1, .int .i64 x282002_1]) ?_ 0 _ rfl; (with_reducible repeat (first | refine blk_drewN ?_ _ | refine blk_drew ?_ | refine blk_alloc ?_ _)); refine blk_far ?_ NB281_291.out _; (with_reducible repeat (first | refine blk_drewN ?_ _ | refine blk_drew ?_ | refine blk_alloc ?_ _)); refine blk_far ?_ NB281_291.out _; (with_reducible repeat (first | refine blk_drewN ?_ _ | refine blk_drew ?_ | refine blk_alloc ?_ _)); refine blk_far ?_ NB281_291.out _; (with_reducible repeat (first | refine blk_drewN ?_ _ | refine blk_drew ?_ | refine blk_alloc ?_ _)); exact BK281.out) Try.underlying73 rfl (by kernel_rfl)) rfl ?_
          exact ⟨by first | rfl | (simp [errW_none, errW_some] <;> rfl) | (simp only [← hji53]; first | rfl | (simp [errW_none, errW_some] <;> rfl)) | (simp [*, errW_none, errW_some] <;> rfl), by repeat (first | (with_reducible first | exact HB.out | apply below_alloc | apply pw_below_drewN | apply below_drew1 | refine below_set ?_ GE280.out | refine below_set ?_ GE281.out | refine below_set ?_ GE291.out) | exact HB.out)⟩
        · rw [if_neg c54] at H
          have c54b0 : decide ((ji53) < 1) = false := decide_eq_false c54
          clear c54
          obtain ⟨ji64, hji64⟩ : ∃ j_ : Int, (mx t288 t289) = j_ := ⟨_, rfl⟩
          replace H : (if (ji64) > t282 then (some (x281000_1, x281001_1, x281002_2)) else (veils_heights_follow.l0 k2 l0 t282 t288 t289 t290)) = some (r1, r2, r3) := by first | (rw [hji64] at H; exact H) | (simp only [hji64] at H ⊢; exact H)
          (try rw [hji64] at A52)
          have hji64_ : (if t288 < t289 then t289 else t288) = ji64 := hji64
          by_cases c65 : (ji64) > t282
          · rw [if_pos c65] at H
            have c65b0 : decide (t282 < (ji64)) = true := decide_eq_true c65
            clear c65
            simp only [Option.some.injEq, Prod.mk.injEq] at H
            obtain ⟨rfl, rfl, rfl⟩ := H
            have hnb66 := NB280_281.out
            have hnc66 := NB281_280.out
            have hcz67_0 : wr.cell? ⟨gb280, 0, none⟩ = some (.int .i64 x281000_1) := (blk_cell BK280.out 0).trans rfl
            have hcz67_1 : wr.cell? ⟨gb280, 1, none⟩ = some (.int .i64 x281001_1) := (blk_cell BK280.out 1).trans rfl
            have hcz67_2 : wr.cell? ⟨gb280, 2, none⟩ = some (.int .i64 x281002_2) := (blk_cell BK280.out 2).trans rfl
            have hfz67_0 := blk_frozen BK280.out 0
            have hfz67_1 := blk_frozen BK280.out 1
            have hfz67_2 := blk_frozen BK280.out 2
            go_wp2_with (first | ((with_reducible refine gate_callee (f := 78) rfl ?_); refine goesL_ (some 33) rfl rfl Try.func78 (by kernel_rfl) rfl #[.agg #[.int .i64 x281000_1, .int .i64 x281001_1, .int .i64 x281002_2]] rfl ar_ ?_; (with_reducible refine (veils_knot_step.calls x281000_1 x281001_1 x281002_2 t288 t289 t290 _ A52.out).mono ?_); rintro e w68 ⟨rfl, hb⟩; refine ⟨_, rfl, ?_⟩; have n0_ := Aside0.mk (blk_below (g := gb280) (o := .cells #[.int .i64 x281000_1, .int .i64 x281001_1, .int .i64 x281002_2] 73 (0, 0)) (nB_ BK280.out) hb); have n1_ := Aside0.mk (blk_below (g := gb281) (o := .cells #[.int .i64 x282000_1, .int .i64 x282001_1, .int .i64 x282002_1] 73 (0, 0)) (nB_ BK281.out) hb); have n2_ := Aside0.mk (below_step (belG_) hb); clear BK280; clear BK281; clear HB; have BK280 := n0_; have BK281 := n1_; have HB := n2_; clear n0_ n1_ n2_; (try clear hb); (try clear hb2); (try clear hk); (try clear hi)) | ((with_reducible refine gate_dst (N := 8) rfl ?_); (try (refine gate_guard (by rfl) ?_; dsimp only)); refine box_event ?hg (N := 8) ?hd (cs := #[.int .i64 0, .int .i64 0, .int .i64 0]) (t := 73) ?hr ?_; (case hd => rfl); (case hg => rfl); (case hr => first | (go_simp; done) | (go_simp; rfl)); intro gb291 hg w69 hbox hb; have n0_ := Aside0.mk (blk_below (g := gb280) (o := .cells #[.int .i64 x281000_1, .int .i64 x281001_1, .int .i64 x281002_2] 73 (0, 0)) (nB_ BK280.out) hb); have n1_ := Aside0.mk (blk_below (g := gb281) (o := .cells #[.int .i64 x282000_1, .int .i64 x282001_1, .int .i64 x282002_1] 73 (0, 0)) (nB_ BK281.out) hb); have n2_ := Aside0.mk (below_step (belG_) hb); have n3_ := Aside0.mk (hbox); have n4_ := Aside0.mk ((by rw [hg]; exact (below_size (belG_)) : w.heap.size ≤ gb291)); have n5_ := Aside0.mk ((by rw [hg]; exact (below_size (belG_)) : w.heap.size ≤ gb291)); have n6_ := Aside0.mk ((by rw [hg]; exact Nat.ne_of_lt (blk_lt (g := gb280) (o := .cells #[.int .i64 x281000_1, .int .i64 x281001_1, .int .i64 x281002_2] 73 (0, 0)) (nB_ BK280.out)) : gb280 ≠ gb291)); have n7_ := Aside0.mk ((by rw [hg]; exact Nat.ne_of_gt (blk_lt (g := gb280) (o := .cells #[.int .i64 x281000_1, .int .i64 x281001_1, .int .i64 x281002_2] 73 (0, 0)) (nB_ BK280.out)) : gb291 ≠ gb280)); have n8_ := Aside0.mk ((by rw [hg]; exact Nat.ne_of_lt (blk_lt (g := gb281) (o := .cells #[.int .i64 x282000_1, .int .i64 x282001_1, .int .i64 x282002_1] 73 (0, 0)) (nB_ BK281.out)) : gb281 ≠ gb291)); have n9_ := Aside0.mk ((by rw [hg]; exact Nat.ne_of_gt (blk_lt (g := gb281) (o := .cells #[.int .i64 x282000_1, .int .i64 x282001_1, .int .i64 x282002_1] 73 (0, 0)) (nB_ BK281.out)) : gb291 ≠ gb281)); clear BK280; clear BK281; clear HB; have BK280 := n0_; have BK281 := n1_; have HB := n2_; have BK291 := n3_; have GW291 := n4_; have GE291 := n5_; have NB280_291 := n6_; have NB291_280 := n7_; have NB281_291 := n8_; have NB291_281 := n9_; clear n0_ n1_ n2_ n3_ n4_ n5_ n6_ n7_ n8_ n9_; clear hb hbox hg; have hnb70 := NB291_280.out; have hnc70 := NB280_291.out; have hnb71 := NB291_281.out; have hnc71 := NB281_291.out; have hcz72_0 : w69.cell? ⟨gb291, 0, none⟩ = some (.int .i64 0) := (blk_cell BK291.out 0).trans rfl; have hcz72_1 : w69.cell? ⟨gb291, 1, none⟩ = some (.int .i64 0) := (blk_cell BK291.out 1).trans rfl; have hcz72_2 : w69.cell? ⟨gb291, 2, none⟩ = some (.int .i64 0) := (blk_cell BK291.out 2).trans rfl; have hfz72_0 := blk_frozen BK291.out 0; have hfz72_1 := blk_frozen BK291.out 1; have hfz72_2 := blk_frozen BK291.out 2; have hcz73_0 : w69.cell? ⟨gb280, 0, none⟩ = some (.int .i64 x281000_1) := (blk_cell BK280.out 0).trans rfl; have hcz73_1 : w69.cell? ⟨gb280, 1, none⟩ = some (.int .i64 x281001_1) := (blk_cell BK280.out 1).trans rfl; have hcz73_2 : w69.cell? ⟨gb280, 2, none⟩ = some (.int .i64 x281002_2) := (blk_cell BK280.out 2).trans rfl; have hfz73_0 := blk_frozen BK280.out 0; have hfz73_1 := blk_frozen BK280.out 1; have hfz73_2 := blk_frozen BK280.out 2; have hcz74_0 : w69.cell? ⟨gb281, 0, none⟩ = some (.int .i64 x282000_1) := (blk_cell BK281.out 0).trans rfl; have hcz74_1 : w69.cell? ⟨gb281, 1, none⟩ = some (.int .i64 x282001_1) := (blk_cell BK281.out 1).trans rfl; have hcz74_2 : w69.cell? ⟨gb281, 2, none⟩ = some (.int .i64 x282002_1) := (blk_cell BK281.out 2).trans rfl; have hfz74_0 := blk_frozen BK281.out 0; have hfz74_1 := blk_frozen BK281.out 1; have hfz74_2 := blk_frozen BK281.out 2))
            refine bodyPost_ret (results_cell_row rfl _ _ gb281 73 #[.int .i64 x281000_1, .int .i64 x281001_1, .int .i64 x281002_2] (0, 0) _ rfl (by (with_reducible repeat (first | refine blk_drewN ?_ _ | refine blk_drew ?_ | refine blk_alloc ?_ _)); refine blk_put (cs := #[.int .i64 x281000_1, .int .i64 x281001_1, .int .i64 x282002_1]) ?_ 2 _ rfl; (with_reducible repeat (first | refine blk_drewN ?_ _ | refine blk_drew ?_ | refine blk_alloc ?_ _)); refine blk_put (cs := #[.int .i64 x281000_1, .int .i64 x282001_1, .int .i64 x282002_1]) ?_ 1 _ rfl; (with_reducible repeat (first | refine blk_drewN ?_ _ | refine blk_drew ?_ | refine blk_alloc ?_ _)); refine blk_put (cs := #[.int .i64 x282000_1, .int .i64 x282001_1, .int .i64 x282002_1]) ?_ 0 _ rfl; (with_reducible repeat (first | refine blk_drewN ?_ _ | refine blk_drew ?_ | refine blk_alloc ?_ _)); refine blk_far ?_ NB281_291.out _; (with_reducible repeat (first | refine blk_drewN ?_ _ | refine blk_drew ?_ | refine blk_alloc ?_ _)); refine blk_far ?_ NB281_291.out _; (with_reducible repeat (first | refine blk_drewN ?_ _ | refine blk_drew ?_ | refine blk_alloc ?_ _)); refine blk_far ?_ NB281_291.out _; (with_reducible repeat (first | refine blk_drewN ?_ _ | refine blk_drew ?_ | refine blk_alloc ?_ _)); exact BK281.out) Try.underlying73 rfl (by kernel_rfl)) rfl ?_
            exact ⟨by first | rfl | (simp [errW_none, errW_some] <;> rfl) | (simp only [← hji53, ← hji64]; first | rfl | (simp [errW_none, errW_some] <;> rfl)) | (simp [*, errW_none, errW_some] <;> rfl), by repeat (first | (with_reducible first | exact HB.out | apply below_alloc | apply pw_below_drewN | apply below_drew1 | refine below_set ?_ GE280.out | refine below_set ?_ GE281.out | refine below_set ?_ GE291.out) | exact HB.out)⟩
          · rw [if_neg c65] at H
            have c65b0 : decide (t282 < (ji64)) = false := decide_eq_false c65
            clear c65
            have H' := Aside0.mk H
            clear H
            have hnb75 := NB280_281.out
            have hnc75 := NB281_280.out
            have hcz76_0 : wr.cell? ⟨gb280, 0, none⟩ = some (.int .i64 x281000_1) := (blk_cell BK280.out 0).trans rfl
            have hcz76_1 : wr.cell? ⟨gb280, 1, none⟩ = some (.int .i64 x281001_1) := (blk_cell BK280.out 1).trans rfl
            have hcz76_2 : wr.cell? ⟨gb280, 2, none⟩ = some (.int .i64 x281002_2) := (blk_cell BK280.out 2).trans rfl
            have hfz76_0 := blk_frozen BK280.out 0
            have hfz76_1 := blk_frozen BK280.out 1
            have hfz76_2 := blk_frozen BK280.out 2
            go_wp2_with (first | ((with_reducible refine gate_callee (f := 78) rfl ?_); refine goesL_ (some 33) rfl rfl Try.func78 (by kernel_rfl) rfl #[.agg #[.int .i64 x281000_1, .int .i64 x281001_1, .int .i64 x281002_2]] rfl ar_ ?_; (with_reducible refine (veils_knot_step.calls x281000_1 x281001_1 x281002_2 t288 t289 t290 _ A52.out).mono ?_); rintro e w77 ⟨rfl, hb⟩; refine ⟨_, rfl, ?_⟩; have n0_ := Aside0.mk (blk_below (g := gb280) (o := .cells #[.int .i64 x281000_1, .int .i64 x281001_1, .int .i64 x281002_2] 73 (0, 0)) (nB_ BK280.out) hb); have n1_ := Aside0.mk (blk_below (g := gb281) (o := .cells #[.int .i64 x282000_1, .int .i64 x282001_1, .int .i64 x282002_1] 73 (0, 0)) (nB_ BK281.out) hb); have n2_ := Aside0.mk (below_step (belG_) hb); clear BK280; clear BK281; clear HB; have BK280 := n0_; have BK281 := n1_; have HB := n2_; clear n0_ n1_ n2_; (try clear hb); (try clear hb2); (try clear hk); (try clear hi)) | ((with_reducible refine gate_dst (N := 8) rfl ?_); (try (refine gate_guard (by rfl) ?_; dsimp only)); refine box_event ?hg (N := 8) ?hd (cs := #[.int .i64 0, .int .i64 0, .int .i64 0]) (t := 73) ?hr ?_; (case hd => rfl); (case hg => rfl); (case hr => first | (go_simp; done) | (go_simp; rfl)); intro gb291 hg w78 hbox hb; have n0_ := Aside0.mk (blk_below (g := gb280) (o := .cells #[.int .i64 x281000_1, .int .i64 x281001_1, .int .i64 x281002_2] 73 (0, 0)) (nB_ BK280.out) hb); have n1_ := Aside0.mk (blk_below (g := gb281) (o := .cells #[.int .i64 x282000_1, .int .i64 x282001_1, .int .i64 x282002_1] 73 (0, 0)) (nB_ BK281.out) hb); have n2_ := Aside0.mk (below_step (belG_) hb); have n3_ := Aside0.mk (hbox); have n4_ := Aside0.mk ((by rw [hg]; exact (below_size (belG_)) : w.heap.size ≤ gb291)); have n5_ := Aside0.mk ((by rw [hg]; exact (below_size (belG_)) : w.heap.size ≤ gb291)); have n6_ := Aside0.mk ((by rw [hg]; exact Nat.ne_of_lt (blk_lt (g := gb280) (o := .cells #[.int .i64 x281000_1, .int .i64 x281001_1, .int .i64 x281002_2] 73 (0, 0)) (nB_ BK280.out)) : gb280 ≠ gb291)); have n7_ := Aside0.mk ((by rw [hg]; exact Nat.ne_of_gt (blk_lt (g := gb280) (o := .cells #[.int .i64 x281000_1, .int .i64 x281001_1, .int .i64 x281002_2] 73 (0, 0)) (nB_ BK280.out)) : gb291 ≠ gb280)); have n8_ := Aside0.mk ((by rw [hg]; exact Nat.ne_of_lt (blk_lt (g := gb281) (o := .cells #[.int .i64 x282000_1, .int .i64 x282001_1, .int .i64 x282002_1] 73 (0, 0)) (nB_ BK281.out)) : gb281 ≠ gb291)); have n9_ := Aside0.mk ((by rw [hg]; exact Nat.ne_of_gt (blk_lt (g := gb281) (o := .cells #[.int .i64 x282000_1, .int .i64 x282001_1, .int .i64 x282002_1] 73 (0, 0)) (nB_ BK281.out)) : gb291 ≠ gb281)); clear BK280; clear BK281; clear HB; have BK280 := n0_; have BK281 := n1_; have HB := n2_; have BK291 := n3_; have GW291 := n4_; have GE291 := n5_; have NB280_291 := n6_; have NB291_280 := n7_; have NB281_291 := n8_; have NB291_281 := n9_; clear n0_ n1_ n2_ n3_ n4_ n5_ n6_ n7_ n8_ n9_; clear hb hbox hg; have hnb79 := NB291_280.out; have hnc79 := NB280_291.out; have hnb80 := NB291_281.out; have hnc80 := NB281_291.out; have hcz81_0 : w78.cell? ⟨gb291, 0, none⟩ = some (.int .i64 0) := (blk_cell BK291.out 0).trans rfl; have hcz81_1 : w78.cell? ⟨gb291, 1, none⟩ = some (.int .i64 0) := (blk_cell BK291.out 1).trans rfl; have hcz81_2 : w78.cell? ⟨gb291, 2, none⟩ = some (.int .i64 0) := (blk_cell BK291.out 2).trans rfl; have hfz81_0 := blk_frozen BK291.out 0; have hfz81_1 := blk_frozen BK291.out 1; have hfz81_2 := blk_frozen BK291.out 2; have hcz82_0 : w78.cell? ⟨gb280, 0, none⟩ = some (.int .i64 x281000_1) := (blk_cell BK280.out 0).trans rfl; have hcz82_1 : w78.cell? ⟨gb280, 1, none⟩ = some (.int .i64 x281001_1) := (blk_cell BK280.out 1).trans rfl; have hcz82_2 : w78.cell? ⟨gb280, 2, none⟩ = some (.int .i64 x281002_2) := (blk_cell BK280.out 2).trans rfl; have hfz82_0 := blk_frozen BK280.out 0; have hfz82_1 := blk_frozen BK280.out 1; have hfz82_2 := blk_frozen BK280.out 2))
            go_roundg k2
            case measure => have := HK1.out; have := HK2.out; omega
            case rel => exact ⟨(t288), (t289), (t290), (x282000_1), (x282001_1), (x282002_1), H', ⟨by have := HK1.out; have := HK2.out; omega⟩, ⟨by (with_reducible repeat (first | refine blk_drewN ?_ _ | refine blk_drew ?_ | refine blk_alloc ?_ _)); refine blk_put (cs := #[.int .i64 t288, .int .i64 t289, .int .i64 x281002_2]) ?_ 2 _ rfl; (with_reducible repeat (first | refine blk_drewN ?_ _ | refine blk_drew ?_ | refine blk_alloc ?_ _)); refine blk_put (cs := #[.int .i64 t288, .int .i64 x281001_1, .int .i64 x281002_2]) ?_ 1 _ rfl; (with_reducible repeat (first | refine blk_drewN ?_ _ | refine blk_drew ?_ | refine blk_alloc ?_ _)); refine blk_put (cs := #[.int .i64 x281000_1, .int .i64 x281001_1, .int .i64 x281002_2]) ?_ 0 _ rfl; (with_reducible repeat (first | refine blk_drewN ?_ _ | refine blk_drew ?_ | refine blk_alloc ?_ _)); refine blk_far ?_ NB280_291.out _; (with_reducible repeat (first | refine blk_drewN ?_ _ | refine blk_drew ?_ | refine blk_alloc ?_ _)); refine blk_far ?_ NB280_291.out _; (with_reducible repeat (first | refine blk_drewN ?_ _ | refine blk_drew ?_ | refine blk_alloc ?_ _)); refine blk_far ?_ NB280_291.out _; (with_reducible repeat (first | refine blk_drewN ?_ _ | refine blk_drew ?_ | refine blk_alloc ?_ _)); exact BK280.out⟩, ⟨by (with_reducible repeat (first | refine blk_drewN ?_ _ | refine blk_drew ?_ | refine blk_alloc ?_ _)); refine blk_far ?_ NB281_280.out _; (with_reducible repeat (first | refine blk_drewN ?_ _ | refine blk_drew ?_ | refine blk_alloc ?_ _)); refine blk_far ?_ NB281_280.out _; (with_reducible repeat (first | refine blk_drewN ?_ _ | refine blk_drew ?_ | refine blk_alloc ?_ _)); refine blk_far ?_ NB281_280.out _; (with_reducible repeat (first | refine blk_drewN ?_ _ | refine blk_drew ?_ | refine blk_alloc ?_ _)); refine blk_far ?_ NB281_291.out _; (with_reducible repeat (first | refine blk_drewN ?_ _ | refine blk_drew ?_ | refine blk_alloc ?_ _)); refine blk_far ?_ NB281_291.out _; (with_reducible repeat (first | refine blk_drewN ?_ _ | refine blk_drew ?_ | refine blk_alloc ?_ _)); refine blk_far ?_ NB281_291.out _; (with_reducible repeat (first | refine blk_drewN ?_ _ | refine blk_drew ?_ | refine blk_alloc ?_ _)); exact BK281.out⟩, ⟨by repeat (first | (with_reducible first | exact HB.out | apply below_alloc | apply pw_below_drewN | apply below_drew1 | refine below_set ?_ GE280.out | refine below_set ?_ GE281.out | refine below_set ?_ GE291.out) | exact HB.out)⟩⟩

end Go.Proofs.Ytdinepghommchaa.V

-- Written by a program of this session over the kit's printer: wip/gp.py.
namespace Go.Proofs.Ytdinepghommchaa.V
open Go.RowKit Go.Proofs.YtdinepghommchaaW.PrintWords Go.Proofs.YtdinepghommchaaW.PrintLast Go.Proofs.YtdinepghommchaaW.PrintMore
attribute [local go_sem] max2_int min2_int max_two min_two max_three min_three max_four min_four   -- for this text's walks alone
set_option linter.unusedVariables false
set_option linter.unusedSimpArgs false

/-! ### veils_heights_pairing: function 50 -/
def veils_heights_pairing.l0 : Nat → List (List Int) → List (S73) → List Int → List (S73) → Int → Int → Option (List Int)
 | 0, _, _, _, _, _, _ => none
 | k + 1, x0, x3, x4, x9, x10, x11 => if x11 < x10 then (if 0 ≤ x11 then (if x11 < (x9.length : Int) then ((veils_heights_follow.f k x0 ((rd_T73 x9 x11).f0) ((rd_T73 x9 x11).f1) ((rd_T73 x9 x11).f2)).bind fun bt297 => ((veils_knot.f k x3 bt297.1 bt297.2.1 bt297.2.2).bind fun t300 => (if x4.length < 17592186044416 then (veils_heights_pairing.l0 k x0 x3 (x4 ++ [t300]) x9 x10 (wrap64 (x11 + 1))) else (none)))) else (none)) else (none)) else (some x4)
def veils_heights_pairing.f (k : Nat) (l0 : List (List Int)) : Option (List Int) := (veils_heights_ends.f l0).bind fun t292 => (veils_heights_pairing.l0 k l0 t292 ([] : List Int) t292 (t292.length : Int) 0)
theorem veils_heights_pairing.mono_l : ∀ k, (∀ y0 y1 y2 y3 y4 y5, LeO (veils_heights_pairing.l0 k y0 y1 y2 y3 y4 y5) (veils_heights_pairing.l0 (k + 1) y0 y1 y2 y3 y4 y5))
 | 0 => fun _ _ _ _ _ _ r h => by simp [veils_heights_pairing.l0] at h
 | k + 1 => by
  have ih0 := veils_heights_pairing.mono_l k
  · intro y0 y1 y2 y3 y4 y5
    unfold veils_heights_pairing.l0
    repeat' first
    | (with_reducible exact ih0 _ _ _ _ _ _)
    | (with_reducible exact veils_heights_follow.mono _ _ _ _ _)
    | (with_reducible exact veils_knot.mono _ _ _ _ _)
    | (with_reducible exact LeO.refl _)
    | (with_reducible exact LeO.none _)
    | (with_reducible refine LeO.ite ?_ ?_)
    | (with_reducible refine LeO.bind ?_ (fun _ => ?_))
    | exact ih0 _ _ _ _ _ _
    | exact veils_heights_follow.mono _ _ _ _ _
    | exact veils_knot.mono _ _ _ _ _
    | exact LeO.none _
    | refine LeO.ite ?_ ?_
    | refine LeO.bind ?_ (fun _ => ?_)
theorem veils_heights_pairing.mono : ∀ a0 k, LeO (veils_heights_pairing.f k a0) (veils_heights_pairing.f (k + 1) a0) := by
 intro a0 k
 have ih0 := veils_heights_pairing.mono_l k
 unfold veils_heights_pairing.f
 repeat' first
  | (with_reducible exact ih0 _ _ _ _ _ _)
  | (with_reducible exact veils_heights_follow.mono _ _ _ _ _)
  | (with_reducible exact veils_knot.mono _ _ _ _ _)
  | (with_reducible exact LeO.refl _)
  | (with_reducible exact LeO.none _)
  | (with_reducible refine LeO.ite ?_ ?_)
  | (with_reducible refine LeO.bind ?_ (fun _ => ?_))
  | exact ih0 _ _ _ _ _ _
  | exact veils_heights_follow.mono _ _ _ _ _
  | exact veils_knot.mono _ _ _ _ _
  | exact LeO.none _
  | refine LeO.ite ?_ ?_
  | refine LeO.bind ?_ (fun _ => ?_)
set_option maxHeartbeats 8000000 in
set_option maxRecDepth 100000 in
theorem veils_heights_pairing.calls (k : Nat) (A0 : Option Addr) (c0 : Nat) (l0 : List (List Int)) (r : List Int) (w : World) (hr0 : Kd.C (Kd.slice 3 (Kd.int .i64)) w A0 l0.length l0) (hc0 : l0.length ≤ c0) (h : veils_heights_pairing.f k l0 = some r) :
 Calls Try.prog 50 #[.slice A0 l0.length c0] w fun e w' => ∃ v0_ : Value, e = .returned (v0_) ∧ Kd.R (Kd.int .i64) 3 w' w.heap.size (fun _ => True) v0_ r ∧ Below w.heap.size w w' := by
 have hu73 := Try.underlying73
 have HR0 := Aside0.mk hr0
 have HC0 := Aside0.mk hc0
 clear hr0 hc0
 have HB := Aside0.mk (Below.refl w.heap.size w)
 have H : ((veils_heights_ends.f l0).bind fun t292 => (veils_heights_pairing.l0 k l0 t292 ([] : List Int) t292 (t292.length : Int) 0)) = some r := h
 clear h
 replace H := Option.bind_eq_some_iff.mp H
 obtain ⟨t292, A20, H⟩ := H
 replace H : (veils_heights_pairing.l0 k l0 t292 ([] : List Int) t292 (t292.length : Int) 0) = some r := H
 have A2 := Aside0.mk A20
 clear A20
 have H' := Aside0.mk H
 clear H
 go_enter Try.func50, Try.ntmps50
 go_wp2_with (first | ((with_reducible refine gate_callee (f := 65) rfl ?_); refine goesL_ (some 8) rfl rfl Try.func65 (by kernel_rfl) rfl #[.slice A0 l0.length c0] rfl ar_ ?_; (with_reducible refine (veils_heights_ends.calls _ _ l0 t292 _ ?side1 ?side2 A2.out).mono ?_); (case side1 => repeat (first | exact HR0.out | (with_reducible refine Kd.C_alloc ?_ _) | (with_reducible refine Kd.C_drewN ?_ _) | (with_reducible refine Kd.C_drew ?_))); (case side2 => exact HC0.out); rintro e w3 ⟨v293, rfl, ho0, hb⟩; refine ⟨_, rfl, ?_⟩; have n0_ := Aside0.mk (Kd.R_lower ho0 (below_size (bel_))); have n1_ := Aside0.mk (below_step (bel_) hb); clear HB; have HO294 := n0_; have HB := n1_; clear n0_ n1_; (try clear hb); (try clear hb2); (try clear hk); (try clear hi); (try clear ho0); obtain ⟨Ao4, co4, eo4⟩ := Kd.R_slice HO294.out; subst eo4))
 go_loopg [4, 11] k (fun kq v4 v11 w' => ∃ (x4_1 : List Int) (x11_1 : Int), v11 = .int .i64 x11_1 ∧ Aside0 (veils_heights_pairing.l0 kq l0 t292 x4_1 t292 (t292.length : Int) x11_1 = some r) ∧ Aside0 (kq ≤ k) ∧ Aside0 (Kd.R k73 73 w' w.heap.size (fun _ => True) (.slice Ao4 t292.length co4) t292) ∧ Aside0 (Kd.R (Kd.int .i64) 3 w' w.heap.size (fun _ => True) v4 x4_1) ∧ Aside0 (Kd.R k73 73 w' w.heap.size (fun _ => True) (.slice Ao4 t292.length co4) t292) ∧ Aside0 (Below w.heap.size w w'))
 case atStart => exact ⟨(([] : List Int)), (0), rf_, H', ⟨Nat.le_refl _⟩, ⟨nR_ HO294.out⟩, ⟨by first | exact Kd.R_nil _ _ _ _ _ | exact Kd.N_nil _ _ _ _ _ | exact Kd.V_nil _ _ _ _ _ | exact Kd.Q_nil _ _ _ _ _ | exact Kd.S_nil _ _ _ _ _⟩, ⟨nR_ HO294.out⟩, ⟨bel_⟩⟩
 case round =>
  clear H'
  try clear p2
  obtain ⟨x4_1, x11_1, rfl, HA, HK1, HO_3, HO_4, HO_9, HB⟩ := hrel
  cases gk with
  | zero => exact absurd HA.out (by simp [veils_heights_pairing.l0])
  | succ k1 =>
    have H := HA.out
    clear HA
    simp only [veils_heights_pairing.l0] at H
    by_cases c5 : x11_1 < (t292.length : Int)
    · rw [if_pos c5] at H
      have c5b0 : decide (x11_1 < (t292.length : Int)) = true := decide_eq_true c5
      clear c5
      by_cases c6 : 0 ≤ x11_1
      · rw [if_pos c6] at H
        have c6b0 : decide (0 ≤ x11_1) = true := decide_eq_true c6
        clear c6
        by_cases c7 : x11_1 < (t292.length : Int)
        · rw [if_pos c7] at H
          have c7b0 : decide (x11_1 < (t292.length : Int)) = true := decide_eq_true c7
          clear c7
          replace H := Option.bind_eq_some_iff.mp H
          obtain ⟨⟨t297, t298, t299⟩, A80, H⟩ := H
          replace H : ((veils_knot.f k1 t292 t297 t298 t299).bind fun t300 => (if x4_1.length < 17592186044416 then (veils_heights_pairing.l0 k1 l0 t292 (x4_1 ++ [t300]) t292 (t292.length : Int) (wrap64 (x11_1 + 1))) else (none))) = some r := H
          have A8 := Aside0.mk A80
          clear A80
          replace H := Option.bind_eq_some_iff.mp H
          obtain ⟨t300, A90, H⟩ := H
          replace H : (if x4_1.length < 17592186044416 then (veils_heights_pairing.l0 k1 l0 t292 (x4_1 ++ [t300]) t292 (t292.length : Int) (wrap64 (x11_1 + 1))) else (none)) = some r := H
          have A9 := Aside0.mk A90
          clear A90
          by_cases c10 : x4_1.length < 17592186044416
          · rw [if_pos c10] at H
            have LMc10 := Aside0.mk c10
            clear c10
            obtain ⟨y301, hy301⟩ : ∃ y_ : List Int, y_ = (x4_1 ++ [t300]) := ⟨_, rfl⟩
            replace H : (veils_heights_pairing.l0 k1 l0 t292 y301 t292 (t292.length : Int) (wrap64 (x11_1 + 1))) = some r := by first | (rw [hy301]; with_reducible exact H) | (have H2_ := (Option.bind_some _ _).symm.trans H; rw [hy301]; with_reducible exact H2_) | (have H2_ := (Option.bind_some _ _).symm.trans H; with_reducible exact H2_) | with_reducible exact H | (rw [hy301]; exact H) | exact H
            have Ny301 := Aside0.mk hy301
            clear hy301
            have H' := Aside0.mk H
            clear H
            have p295 : 0 ≤ (x11_1 : Int) := od_
            have q295 : x11_1 < (t292.length : Int) := od_
            obtain ⟨ad295, e295, hx295_0, hx295_1, hx295_2⟩ := at_T73 (Kd.R_reads' HO_9.out).2.2 x11_1 p295 q295
            cases e295
            replace p295 := eq_true p295
            replace q295 := eq_true q295
            go_wp2_with (first | ((with_reducible refine gate_dst (N := 6) rfl ?_); refine box_event ?hg (N := 6) ?hd (cs := #[.int .i64 0, .int .i64 0, .int .i64 0]) (t := 73) ?hr ?_; (case hd => rfl); (case hg => rfl); (case hr => first | (go_simp; done) | (go_simp; rfl)); intro gb296 hg w11 hbox hb; have n0_ := Aside0.mk (Kd.R_below (Kd.R_elderB (nR_ HO_3.out) gb296 (Nat.le_of_eq hg.symm)) hb); have n1_ := Aside0.mk (Kd.R_below (nR_ HO_4.out) hb); have n2_ := Aside0.mk (Kd.R_below (Kd.R_elderB (nR_ HO_9.out) gb296 (Nat.le_of_eq hg.symm)) hb); have n3_ := Aside0.mk (below_step (bel_) hb); have n4_ := Aside0.mk (hbox); have n5_ := Aside0.mk ((by rw [hg]; exact (below_size (bel_)) : w.heap.size ≤ gb296)); have n6_ := Aside0.mk ((by rw [hg]; exact (below_size (bel_)) : w.heap.size ≤ gb296)); clear HO_3; clear HO_4; clear HO_9; clear HB; have HO_3 := n0_; have HO_4 := n1_; have HO_9 := n2_; have HB := n3_; have BK296 := n4_; have GW296 := n5_; have GE296 := n6_; clear n0_ n1_ n2_ n3_ n4_ n5_ n6_; clear hb hbox hg; have hcz12_0 : w11.cell? ⟨gb296, 0, none⟩ = some (.int .i64 0) := (blk_cell BK296.out 0).trans rfl; have hcz12_1 : w11.cell? ⟨gb296, 1, none⟩ = some (.int .i64 0) := (blk_cell BK296.out 1).trans rfl; have hcz12_2 : w11.cell? ⟨gb296, 2, none⟩ = some (.int .i64 0) := (blk_cell BK296.out 2).trans rfl; have hfz12_0 := blk_frozen BK296.out 0; have hfz12_1 := blk_frozen BK296.out 1; have hfz12_2 := blk_frozen BK296.out 2) | ((with_reducible refine gate_callee (f := 67) rfl ?_); refine goesL_ (some 19) rfl rfl Try.func67 (by kernel_rfl) rfl #[.slice A0 l0.length c0, .agg #[.int .i64 ((rd_T73 t292 x11_1).f0), .int .i64 ((rd_T73 t292 x11_1).f1), .int .i64 ((rd_T73 t292 x11_1).f2)]] rfl ar_ ?_; (with_reducible refine (veils_heights_follow.calls k1 _ _ l0 ((rd_T73 t292 x11_1).f0) ((rd_T73 t292 x11_1).f1) ((rd_T73 t292 x11_1).f2) t297 t298 t299 _ ?side1 ?side2 A8.out).mono ?_); (case side1 => exact Kd.C_below HR0.out (by repeat (first | (with_reducible first | exact HB.out | apply below_alloc | apply pw_below_drewN | apply below_drew1 | refine below_set ?_ GE296.out) | exact HB.out))); (case side2 => exact HC0.out); rintro e w13 ⟨rfl, hb⟩; refine ⟨_, rfl, ?_⟩; have n0_ := Aside0.mk (Kd.R_below (by (with_reducible repeat (first | apply Kd.R_alloc | apply Kd.R_drewN | apply Kd.R_drew)); exact (Kd.R_mono (Kd.R_far (p := ⟨gb296, 2, none⟩) (Kd.R_far (p := ⟨gb296, 1, none⟩) (Kd.R_far (p := ⟨gb296, 0, none⟩) (Kd.R_mono HO_3.out (fun k_ hk => (⟨hk, hk.2⟩ : _ ∧ k_ ≠ gb296))) (fun _ hk => hk.2) (.int .i64 ((rd_T73 t292 x11_1).f0))) (fun _ hk => hk.2) (.int .i64 ((rd_T73 t292 x11_1).f1))) (fun _ hk => hk.2) (.int .i64 ((rd_T73 t292 x11_1).f2))) (fun _ h_ => h_.1))) hb); have n1_ := Aside0.mk (Kd.R_below (by (with_reducible repeat (first | apply Kd.R_alloc | apply Kd.R_drewN | apply Kd.R_drew)); exact (Kd.R_mono (Kd.R_far (p := ⟨gb296, 2, none⟩) (Kd.R_far (p := ⟨gb296, 1, none⟩) (Kd.R_far (p := ⟨gb296, 0, none⟩) (Kd.R_types HO_4.out BK296.out (by decide)) (fun _ hk => hk.2) (.int .i64 ((rd_T73 t292 x11_1).f0))) (fun _ hk => hk.2) (.int .i64 ((rd_T73 t292 x11_1).f1))) (fun _ hk => hk.2) (.int .i64 ((rd_T73 t292 x11_1).f2))) (fun _ h_ => h_.1))) hb); have n2_ := Aside0.mk (Kd.R_below (by (with_reducible repeat (first | apply Kd.R_alloc | apply Kd.R_drewN | apply Kd.R_drew)); exact (Kd.R_mono (Kd.R_far (p := ⟨gb296, 2, none⟩) (Kd.R_far (p := ⟨gb296, 1, none⟩) (Kd.R_far (p := ⟨gb296, 0, none⟩) (Kd.R_mono HO_9.out (fun k_ hk => (⟨hk, hk.2⟩ : _ ∧ k_ ≠ gb296))) (fun _ hk => hk.2) (.int .i64 ((rd_T73 t292 x11_1).f0))) (fun _ hk => hk.2) (.int .i64 ((rd_T73 t292 x11_1).f1))) (fun _ hk => hk.2) (.int .i64 ((rd_T73 t292 x11_1).f2))) (fun _ h_ => h_.1))) hb); have n3_ := Aside0.mk (blk_below (g := gb296) (o := .cells #[.int .i64 ((rd_T73 t292 x11_1).f0), .int .i64 ((rd_T73 t292 x11_1).f1), .int .i64 ((rd_T73 t292 x11_1).f2)] 73 (0, 0)) (by (with_reducible repeat (first | refine blk_drewN ?_ _ | refine blk_drew ?_ | refine blk_alloc ?_ _)); refine blk_put (cs := #[.int .i64 ((rd_T73 t292 x11_1).f0), .int .i64 ((rd_T73 t292 x11_1).f1), .int .i64 0]) ?_ 2 _ rfl; (with_reducible repeat (first | refine blk_drewN ?_ _ | refine blk_drew ?_ | refine blk_alloc ?_ _)); refine blk_put (cs := #[.int .i64 ((rd_T73 t292 x11_1).f0), .int .i64 0, .int .i64 0]) ?_ 1 _ rfl; (with_reducible repeat (first | refine blk_drewN ?_ _ | refine blk_drew ?_ | refine blk_alloc ?_ _)); refine blk_put (cs := #[.int .i64 0, .int .i64 0, .int .i64 0]) ?_ 0 _ rfl; (with_reducible repeat (first | refine blk_drewN ?_ _ | refine blk_drew ?_ | refine blk_alloc ?_ _)); exact BK296.out) hb); have n4_ := Aside0.mk (below_step (by repeat (first | (with_reducible first | exact HB.out | apply below_alloc | apply pw_below_drewN | apply below_drew1 | refine below_set ?_ GE296.out) | exact HB.out)) hb); clear HO_3; clear HO_4; clear HO_9; clear BK296; clear HB; have HO_3 := n0_; have HO_4 := n1_; have HO_9 := n2_; have BK296 := n3_; have HB := n4_; clear n0_ n1_ n2_ n3_ n4_; (try clear hb); (try clear hb2); (try clear hk); (try clear hi)) | ((with_reducible refine gate_callee (f := 66) rfl ?_); refine goesL_ (some 20) rfl rfl Try.func66 (by kernel_rfl) rfl #[.slice (some ad295) t292.length co4, .agg #[.int .i64 t297, .int .i64 t298, .int .i64 t299]] rfl ar_ ?_; (with_reducible refine (veils_knot.calls k1 _ _ t292 t297 t298 t299 t300 _ ?side1 ?side2 A9.out).mono ?_); (case side1 => repeat (first | exact (Kd.R_reads' HO_3.out).2.2 | (with_reducible refine Kd.C_alloc ?_ _) | (with_reducible refine Kd.C_drewN ?_ _) | (with_reducible refine Kd.C_drew ?_))); (case side2 => exact (Kd.R_reads' HO_3.out).2.1); rintro e w14 ⟨rfl, hb⟩; refine ⟨_, rfl, ?_⟩; have n0_ := Aside0.mk (Kd.R_below (nR_ HO_3.out) hb); have n1_ := Aside0.mk (Kd.R_below (nR_ HO_4.out) hb); have n2_ := Aside0.mk (Kd.R_below (nR_ HO_9.out) hb); have n3_ := Aside0.mk (blk_below (g := gb296) (o := .cells #[.int .i64 ((rd_T73 t292 x11_1).f0), .int .i64 ((rd_T73 t292 x11_1).f1), .int .i64 ((rd_T73 t292 x11_1).f2)] 73 (0, 0)) (nB_ BK296.out) hb); have n4_ := Aside0.mk (below_step (by repeat (first | (with_reducible first | exact HB.out | apply below_alloc | apply pw_below_drewN | apply below_drew1 | refine below_set ?_ GE296.out) | exact HB.out)) hb); clear HO_3; clear HO_4; clear HO_9; clear BK296; clear HB; have HO_3 := n0_; have HO_4 := n1_; have HO_9 := n2_; have BK296 := n3_; have HB := n4_; clear n0_ n1_ n2_ n3_ n4_; (try clear hb); (try clear hb2); (try clear hk); (try clear hi)) | ((with_reducible refine gate_builtin (b := .append) (xs := #[.tmp 15, .tmp 21]) rfl ?_); at_builtin; refine Kd.R_append (Kd.int .i64) (w0 := w) w.heap.size rfl (.tmp 15) (.tmp 21) 28 3 (.int .i64 0) 8 rfl Try.underlying28 info3 rfl (by decide) (by omega) u4 x4_1 t300 [.int .i64 t300] (fun _ => True) (fun _ => False) rfl rfl ?aP (fun _ hk => hk.elim) ?aF ?aO ?aB ?aS ?aL ?_; (case aP => exact rfl); (case aB => exact (by repeat (first | (with_reducible first | exact HB.out | apply below_alloc | apply pw_below_drewN | apply below_drew1 | refine below_set ?_ GE296.out) | exact HB.out))); (case aF => exact (fun _ _ => trivial)); (case aO => exact (nR_ HO_4.out)); (case aS => exact (below_size (by repeat (first | (with_reducible first | exact HB.out | apply below_alloc | apply pw_below_drewN | apply below_drew1 | refine below_set ?_ GE296.out) | exact HB.out)))); (case aL => have := LMc10.out; omega); intro v302 w15 ho hb hg hat; rw [← Ny301.out] at ho; have n0_ := Aside0.mk (Kd.R_over' (nR_ HO_3.out) (Kd.R_typed (nR_ HO_4.out)) (by decide) hg); have n1_ := Aside0.mk (Kd.R_over' (nR_ HO_9.out) (Kd.R_typed (nR_ HO_4.out)) (by decide) hg); have n2_ := Aside0.mk (blk_grown (g := gb296) (o := .cells #[.int .i64 ((rd_T73 t292 x11_1).f0), .int .i64 ((rd_T73 t292 x11_1).f1), .int .i64 ((rd_T73 t292 x11_1).f2)] 73 (0, 0)) (nB_ BK296.out) hg (Kd.R_ne HO_4.out BK296.out (by decide))); have n3_ := Aside0.mk (hb); have n4_ := Aside0.mk (ho); clear HO_3; clear HO_9; clear BK296; clear HB; clear HO_4; have HO_3 := n0_; have HO_9 := n1_; have BK296 := n2_; have HB := n3_; have HO303 := n4_; clear n0_ n1_ n2_ n3_ n4_; clear ho hb hg hat))
            go_roundg k1
            case measure => have := HK1.out; omega
            case rel => exact ⟨(y301), (wrap64 (x11_1 + 1)), rf_, H', ⟨by have := HK1.out; omega⟩, ⟨by (with_reducible repeat (first | apply Kd.R_alloc | apply Kd.R_drewN | apply Kd.R_drew)); exact Kd.R_mono HO_3.out (fun _ hk => trivial)⟩, ⟨nR_ HO303.out⟩, ⟨by (with_reducible repeat (first | apply Kd.R_alloc | apply Kd.R_drewN | apply Kd.R_drew)); exact Kd.R_mono HO_9.out (fun _ hk => trivial)⟩, ⟨by repeat (first | (with_reducible first | exact HB.out | apply below_alloc | apply pw_below_drewN | apply below_drew1 | refine below_set ?_ GE296.out) | exact HB.out)⟩⟩
          · rw [if_neg c10] at H
            exact absurd H (by simp)
        · rw [if_neg c7] at H
          exact absurd H (by simp)
      · rw [if_neg c6] at H
        exact absurd H (by simp)
    · rw [if_neg c5] at H
      have c5b0 : decide (x11_1 < (t292.length : Int)) = false := decide_eq_false c5
      clear c5
      obtain rfl := Option.some.inj H
      go_wp2
      go_ret
      exact ⟨_, er_, by (with_reducible repeat (first | apply Kd.R_alloc | apply Kd.R_drewN | apply Kd.R_drew)); exact HO_4.out, bel_⟩

end Go.Proofs.Ytdinepghommchaa.V

-- Written by a program of this session over the kit's printer: wip/gp.py.
namespace Go.Proofs.Ytdinepghommchaa.V
open Go.RowKit Go.Proofs.YtdinepghommchaaW.PrintWords Go.Proofs.YtdinepghommchaaW.PrintLast Go.Proofs.YtdinepghommchaaW.PrintMore
attribute [local go_sem] max2_int min2_int max_two min_two max_three min_three max_four min_four   -- for this text's walks alone
set_option linter.unusedVariables false
set_option linter.unusedSimpArgs false

/-! ### slices_Equal_int_int: function 48 -/
def slices_Equal_int_int.l0 : Nat → List Int → List Int → Int → Int → Option (Bool)
 | 0, _, _, _, _ => none
 | k + 1, x0, x1, x12, x13 => if x13 < x12 then (if 0 ≤ x13 then (if x13 < (x0.length : Int) then (if x13 < (x1.length : Int) then (if (rd x0 x13) = (rd x1 x13) then (slices_Equal_int_int.l0 k x0 x1 x12 (wrap64 (x13 + 1))) else (some false)) else (none)) else (none)) else (none)) else (some true)
def slices_Equal_int_int.f (k : Nat) (l0 : List Int) (l1 : List Int) : Option (Bool) := if (l0.length : Int) = (l1.length : Int) then (slices_Equal_int_int.l0 k l0 l1 (l0.length : Int) 0) else (some false)
set_option maxHeartbeats 8000000 in
set_option maxRecDepth 100000 in
theorem slices_Equal_int_int.calls (k : Nat) (A0 : Option Addr) (c0 : Nat) (l0 : List Int) (A1 : Option Addr) (c1 : Nat) (l1 : List Int) (r : Bool) (w : World) (hr0 : Kd.C (Kd.int .i64) w A0 l0.length l0) (hc0 : l0.length ≤ c0) (hr1 : Kd.C (Kd.int .i64) w A1 l1.length l1) (hc1 : l1.length ≤ c1) (h : slices_Equal_int_int.f k l0 l1 = some r) :
 Calls Try.prog 48 #[.slice A0 l0.length c0, .slice A1 l1.length c1] w fun e w' => e = .returned (.bool r) ∧ Drawn0 w w' := by
 have HR0 := Aside0.mk hr0
 have HC0 := Aside0.mk hc0
 clear hr0 hc0
 have HR1 := Aside0.mk hr1
 have HC1 := Aside0.mk hc1
 clear hr1 hc1
 have H : (if (l0.length : Int) = (l1.length : Int) then (slices_Equal_int_int.l0 k l0 l1 (l0.length : Int) 0) else (some false)) = some r := h
 clear h
 by_cases c3 : (l0.length : Int) = (l1.length : Int)
 · rw [if_pos c3] at H
   have c3b0 : ((l0.length : Int) == (l1.length : Int)) = true := beq_iff_eq.mpr c3
   have c3b1 : ((l0.length : Int) != (l1.length : Int)) = false := bne_eq_false_iff_eq.mpr c3
   have c3b2 : (l0.length == l1.length) = true := by first | simpa using c3 | (simp at c3 ⊢; omega)
   clear c3
   have H' := Aside0.mk H
   clear H
   go_enter Try.func48, Try.ntmps48
   go_wp2
   repeat (go_quiet (fail); try go_wp2)
   go_loopg [13] k (fun kq v13 w' => ∃ (x13_1 : Int), v13 = .int .i64 x13_1 ∧ Aside0 (slices_Equal_int_int.l0 kq l0 l1 (l0.length : Int) x13_1 = some r) ∧ Aside0 (kq ≤ k) ∧ Drawn0 w w')
   case atStart => exact ⟨(0), rf_, H', ⟨Nat.le_refl _⟩, dr_⟩
   case round =>
    clear H'
    try clear c1
    try clear p2
    try clear c3
    try clear c3b0
    try clear c3b1
    try clear c3b2
    obtain ⟨x13_1, rfl, HA, HK1, ⟨m1, rfl⟩⟩ := hrel
    cases gk with
    | zero => exact absurd HA.out (by simp [slices_Equal_int_int.l0])
    | succ k1 =>
     have H := HA.out
     clear HA
     simp only [slices_Equal_int_int.l0] at H
     by_cases c4 : x13_1 < (l0.length : Int)
     · rw [if_pos c4] at H
       have c4b0 : decide (x13_1 < (l0.length : Int)) = true := decide_eq_true c4
       clear c4
       by_cases c5 : 0 ≤ x13_1
       · rw [if_pos c5] at H
         have c5b0 : decide (0 ≤ x13_1) = true := decide_eq_true c5
         clear c5
         by_cases c6 : x13_1 < (l0.length : Int)
         · rw [if_pos c6] at H
           have c6b0 : decide (x13_1 < (l0.length : Int)) = true := decide_eq_true c6
           clear c6
           by_cases c7 : x13_1 < (l1.length : Int)
           · rw [if_pos c7] at H
             have c7b0 : decide (x13_1 < (l1.length : Int)) = true := decide_eq_true c7
             clear c7
             by_cases c8 : (rd l0 x13_1) = (rd l1 x13_1)
             · rw [if_pos c8] at H
               have c8b0 : ((rd l0 x13_1) == (rd l1 x13_1)) = true := beq_iff_eq.mpr c8
               have c8b1 : ((rd l0 x13_1) != (rd l1 x13_1)) = false := bne_eq_false_iff_eq.mpr c8
               clear c8
               have H' := Aside0.mk H
               clear H
               obtain ⟨ad703, e703, hx703_0, p703, q703⟩ := ai_ HR0.out x13_1
               cases e703
               obtain ⟨ad704, e704, hx704_0, p704, q704⟩ := ai_ HR1.out x13_1
               cases e704
               go_wp2
               repeat (go_quiet (fail); try go_wp2)
               go_roundg k1
               case measure => have := HK1.out; omega
               case rel => exact ⟨(wrap64 (x13_1 + 1)), rf_, H', ⟨by have := HK1.out; omega⟩, dr_⟩
             · rw [if_neg c8] at H
               have c8b0 : ((rd l0 x13_1) == (rd l1 x13_1)) = false := beq_eq_false_iff_ne.mpr c8
               have c8b1 : ((rd l0 x13_1) != (rd l1 x13_1)) = true := bne_iff_ne.mpr c8
               obtain rfl := Option.some.inj H
               obtain ⟨ad703, e703, hx703_0, p703, q703⟩ := ai_ HR0.out x13_1
               cases e703
               obtain ⟨ad704, e704, hx704_0, p704, q704⟩ := ai_ HR1.out x13_1
               cases e704
               go_wp2
               repeat (go_quiet (fail); try go_wp2)
               go_ret
               exact ⟨rf_, dr_⟩
           · rw [if_neg c7] at H
             exact absurd H (by simp)
         · rw [if_neg c6] at H
           exact absurd H (by simp)
       · rw [if_neg c5] at H
         exact absurd H (by simp)
     · rw [if_neg c4] at H
       have c4b0 : decide (x13_1 < (l0.length : Int)) = false := decide_eq_false c4
       clear c4
       obtain rfl := Option.some.inj H
       go_wp2
       repeat (go_quiet (fail); try go_wp2)
       go_ret
       exact ⟨rf_, dr_⟩
 · rw [if_neg c3] at H
   have c3b0 : ((l0.length : Int) == (l1.length : Int)) = false := beq_eq_false_iff_ne.mpr c3
   have c3b1 : ((l0.length : Int) != (l1.length : Int)) = true := bne_iff_ne.mpr c3
   have c3b2 : (l0.length == l1.length) = false := by first | simpa using c3 | (simp at c3 ⊢; omega)
   obtain rfl := Option.some.inj H
   go_enter Try.func48, Try.ntmps48
   go_wp2
   repeat (go_quiet (fail); try go_wp2)
   go_ret
   exact ⟨rf_, dr_⟩

end Go.Proofs.Ytdinepghommchaa.V

/- The walk of Count's closure: a veil whose pairing is the one that was asked for is counted. -/
namespace Go.Proofs.Ytdinepghommchaa.V
open Go.RowKit Go.Proofs.YtdinepghommchaaW.PrintWords Go.Proofs.YtdinepghommchaaW.PrintLast Go.Proofs.YtdinepghommchaaW.PrintMore
set_option linter.unusedVariables false
set_option linter.unusedSimpArgs false

def veils_Count1.f (l : List Int) (t : List (List Int)) (k : Int) : Option Int :=
 (veils_raised.f t).bind fun h => (veils_heights_pairing.f 1000 h).bind fun p => (slices_Equal_int_int.f 1000 p l).bind fun e => if e = true then some (wrap64 (k + 1)) else some k

/-- The pairing that is asked for lies in old memory, behind a boxed variable; what was counted in another one. -/
structure AccCount (A : Option Addr) (c bp bo base : Nat) (l : List Int) (W : World) (k : Int) : Prop where
 bp : W.heap[bp]? = some (.cells #[.slice A l.length c] 28 (0, 0))
 bo : W.heap[bo]? = some (.cells #[.int .i64 k] 3 (0, 0))
 rd : ∃ w, Kd.C (Kd.int .i64) w A l.length l ∧ w.heap.size ≤ base ∧ Same (fun k => k < base) w W
 le : l.length ≤ c

theorem AccCount.same {A : Option Addr} {c bp bo base lo hi : Nat} {l : List Int} {W W' : World} {k : Int} (h : AccCount A c bp bo base l W k) (h1 : bp < lo) (h2 : bo < lo) (h3 : base ≤ lo) (hs : Same (fun k => ¬ (lo ≤ k ∧ k < hi)) W W') : AccCount A c bp bo base l W' k := by
 obtain ⟨w, hw, hl, hq⟩ := h.rd
 exact ⟨hs.blk h.bp (by omega), hs.blk h.bo (by omega), ⟨w, hw, hl, hq.trans (hs.mono (fun k hk => by omega))⟩, h.le⟩
theorem AccCount.reads {A : Option Addr} {c bp bo base : Nat} {l : List Int} {W : World} {k : Int} (h : AccCount A c bp bo base l W k) : Kd.C (Kd.int .i64) W A l.length l := by
 obtain ⟨w, hw, hl, hq⟩ := h.rd
 exact Kd.C_below hw (hq.below (fun k hk => by omega))

set_option maxHeartbeats 4000000 in
set_option maxRecDepth 100000 in
theorem veils_Count1.calls {lo0 lo hi bp bo base : Nat} (h0 : lo0 ≤ bo) (h1 : bp < lo) (h2 : bo < lo) (h3 : base ≤ lo) (hbb : base ≤ bo) (l : List Int) (AL : Option Addr) (cL : Nat) (W : World) (A : Option Addr) (c : Nat) (t : List (List Int)) (k k' : Int) (hw : hi ≤ W.heap.size) (hr : Kd.C (Kd.slice 3 (Kd.int .i64)) W A t.length t) (hc : t.length ≤ c)
 (ha : AccCount AL cL bp bo base l W k) (h : veils_Count1.f l t k = some k') :
 Calls Try.prog 47 #[.slice A t.length c, .pointer (some ⟨bp, 0, none⟩), .pointer (some ⟨bo, 0, none⟩)] W fun e W' => e = .returned (.tuple #[]) ∧ AccCount AL cL bp bo base l W' k' ∧ Same (fun k => k < lo0 ∨ (lo ≤ k ∧ k < hi)) W W' := by
 obtain ⟨hh, e1, h⟩ := Option.bind_eq_some_iff.mp h
 obtain ⟨p, e2, h⟩ := Option.bind_eq_some_iff.mp h
 obtain ⟨e, e3, h⟩ := Option.bind_eq_some_iff.mp h
 have HA := Aside0.mk (show AccCount AL cL bp bo base l W.drew k from ⟨blk_drew ha.bp, blk_drew ha.bo, (by obtain ⟨w, hw, hl, hq⟩ := ha.rd; exact ⟨w, hw, hl, hq.trans (Same.drewN W 1)⟩), ha.le⟩)
 have HS := Aside0.mk (show Below W.heap.size W W.drew from below_drew (Below.refl _ _))
 have hcell : W.drew.cell? ⟨bp, 0, none⟩ = some (.slice AL l.length cL) := (blk_cell HA.out.bp 0).trans rfl
 have hne : bo ≠ bp := fun e => by
  have z1 := ha.bp
  rw [← e, ha.bo] at z1
  injection z1 with z1
  injection z1 with _ z2
  cases z2
 have HNE := Aside0.mk hne
 have HR := Aside0.mk (Kd.C_drew hr)
 have HC := Aside0.mk hc
 have E1 := Aside0.mk e1
 have E2 := Aside0.mk e2
 have E3 := Aside0.mk e3
 have HK := Aside0.mk h
 have HW := Aside0.mk hw
 clear hr hc e1 e2 e3 h ha hw hne
 go_enter Try.func47, Try.ntmps47
 go_wp2
 refine start_ (n := 6) (S := fun w' => w'.cell? ⟨bp, 0, none⟩ = some (.slice AL l.length cL)) (ds := []) #[false, false, false, false, false, false] (by kernel_rfl) rfl rfl (hcell) (fun hHeld => ?_)
 generalize W.drew = w1 at HR HA HS hcell hHeld ⊢
 refine pure_ (i := 0) (N := some 4) (v := ?_) (a' := ?_) #[true, false, false, false, false, false] rfl rfl (by kernel_rfl) (fun _ _ _ h => h) (Or.inl ⟨by rfl, ?_⟩) ?_ ?_
 rotate_left
 · intro w'
   go_simp
   with_reducible rfl
 rotate_left
 · simp only [Act.put, List.setIfInBounds_toArray, List.set_cons_zero, List.set_cons_succ]
   rfl
 refine pure_ (i := 1) (N := some 5) (v := ?_) (a' := ?_) #[true, true, false, false, false, false] rfl rfl (by kernel_rfl) (fun _ _ _ h => h) (Or.inl ⟨by rfl, ?_⟩) ?_ ?_
 rotate_left
 · intro w'
   go_simp
   with_reducible rfl
 rotate_left
 · simp only [Act.put, List.setIfInBounds_toArray, List.set_cons_zero, List.set_cons_succ]
   rfl
 refine take_ (i := 4) (N := some 8) (v := ?_) (a' := ?_) #[true, true, false, false, true, false] rfl rfl (by kernel_rfl) (fun _ _ _ h => h) (Or.inl ⟨by rfl, ?_⟩) hHeld ?_ ?_
 rotate_left
 · intro w' s0
   go_simp
   with_reducible rfl
 rotate_left
 · simp only [Act.put, List.setIfInBounds_toArray, List.set_cons_zero, List.set_cons_succ]
   rfl
 refine one_ (i := 2) (N := some 6) #[true, true, true, false, true, false] rfl rfl (by kernel_rfl) (by decide) (fun K hK => ?_)
 refine goes_ Try.func49 (by kernel_rfl) rfl #[.iface 49 (.slice A t.length c)] (by rfl) rfl rfl (by (try simp only [List.map_toArray, List.map_cons, List.map_nil]); first | done | rfl) ?_
 refine (veils_raised.calls A c t hh w1 HR.out HC.out E1.out).mono ?_
 rintro e w2 ⟨v2, rfl, ho2, hb2⟩
 refine ⟨_, rfl, ?_⟩
 have HA2 := Aside0.mk (show AccCount AL cL bp bo base l w2 k from ⟨blk_below HA.out.bp hb2, blk_below HA.out.bo hb2, (by obtain ⟨w, hw, hl, hq⟩ := HA.out.rd; exact ⟨w, hw, hl, hq.trans (Same.of_below hb2)⟩), HA.out.le⟩)
 have HS2 := Aside0.mk (below_step HS.out hb2)
 have HO2 := Aside0.mk ho2
 have hHeld2 : w2.cell? ⟨bp, 0, none⟩ = some (.slice AL l.length cL) := (blk_cell HA2.out.bp 0).trans rfl
 clear ho2 hb2
 refine hK.out _ _ hHeld2 (fun hHeld => ?_)
 clear hK K
 refine norm_ (a' := ?_) ?_ ?_
 rotate_left
 · show Act.put _ (some 6) _ = _
   simp only [Act.put, List.setIfInBounds_toArray, List.set_cons_zero, List.set_cons_succ]
   rfl
 obtain ⟨A2, c2, e2⟩ := Kd.S_slice HO2.out
 subst e2
 refine one_ (i := 3) (N := some 7) #[true, true, true, true, true, false] rfl rfl (by kernel_rfl) (by decide) (fun K hK => ?_)
 refine goes_ Try.func50 (by kernel_rfl) rfl #[.slice A2 hh.length c2] (by rfl) rfl rfl (by (try simp only [List.map_toArray, List.map_cons, List.map_nil]); first | done | rfl) ?_
 refine (veils_heights_pairing.calls 1000 A2 c2 hh p w2 (Kd.S_reads' HO2.out).2.2 (Kd.S_reads' HO2.out).2.1 E2.out).mono ?_
 rintro e w3 ⟨v3, rfl, ho3, hb3⟩
 refine ⟨_, rfl, ?_⟩
 have HA3 := Aside0.mk (show AccCount AL cL bp bo base l w3 k from ⟨blk_below HA2.out.bp hb3, blk_below HA2.out.bo hb3, (by obtain ⟨w, hw, hl, hq⟩ := HA2.out.rd; exact ⟨w, hw, hl, hq.trans (Same.of_below hb3)⟩), HA2.out.le⟩)
 have HS3 := Aside0.mk (below_step HS2.out hb3)
 have HO3 := Aside0.mk ho3
 have hHeld3 : w3.cell? ⟨bp, 0, none⟩ = some (.slice AL l.length cL) := (blk_cell HA3.out.bp 0).trans rfl
 clear ho3 hb3
 refine hK.out _ _ hHeld3 (fun hHeld => ?_)
 clear hK K
 refine norm_ (a' := ?_) ?_ ?_
 rotate_left
 · show Act.put _ (some 7) _ = _
   simp only [Act.put, List.setIfInBounds_toArray, List.set_cons_zero, List.set_cons_succ]
   rfl
 obtain ⟨A3, c3, e3⟩ := Kd.R_slice HO3.out
 subst e3
 refine one_ (i := 5) (N := some 9) #[true, true, true, true, true, true] rfl rfl (by kernel_rfl) (by decide) (fun K hK => ?_)
 refine goes_ Try.func48 (by kernel_rfl) rfl #[.slice A3 p.length c3, .slice AL l.length cL] (by rfl) rfl rfl (by (try simp only [List.map_toArray, List.map_cons, List.map_nil]); first | done | rfl) ?_
 refine (slices_Equal_int_int.calls 1000 A3 c3 p AL cL l e w3 (Kd.R_reads' HO3.out).2.2 (Kd.R_reads' HO3.out).2.1 HA3.out.reads HA3.out.le E3.out).mono ?_
 rintro e0 w4 ⟨rfl, ⟨nd, rfl⟩⟩
 refine ⟨_, rfl, ?_⟩
 have HA4 := Aside0.mk (show AccCount AL cL bp bo base l (w3.drewN nd) k from ⟨blk_drewN HA3.out.bp nd, blk_drewN HA3.out.bo nd, (by obtain ⟨w, hw, hl, hq⟩ := HA3.out.rd; exact ⟨w, hw, hl, hq.trans (Same.drewN _ nd)⟩), HA3.out.le⟩)
 have HS4 := Aside0.mk (pw_below_drewN HS3.out nd)
 have hHeld4 : (w3.drewN nd).cell? ⟨bp, 0, none⟩ = some (.slice AL l.length cL) := (blk_cell HA4.out.bp 0).trans rfl
 clear HS3 HA3 HO3
 generalize w3.drewN nd = w5 at HA4 HS4 hHeld4 ⊢
 refine hK.out _ _ hHeld4 (fun hHeld => ?_)
 clear hK K
 refine norm_ (a' := ?_) ?_ ?_
 rotate_left
 · show Act.put _ (some 9) _ = _
   simp only [Act.put, List.setIfInBounds_toArray, List.set_cons_zero, List.set_cons_succ]
   rfl
 refine done_ (by kernel_rfl) ?_
 have co := (blk_cell HA4.out.bo 0).trans (rfl : _ = some (Value.int .i64 k))
 have fo := blk_frozen HA4.out.bo 0
 have HSAME := Aside0.mk (show Same (fun k => k < lo0 ∨ (lo ≤ k ∧ k < hi)) W w5 from Same.of_below HS4.out)
 have H := HK.out
 clear HK
 cases e with
 | false =>
   obtain rfl := Option.some.inj H
   go_wp2
   first | go_end0 | ((try simp only [Exit.inBlock, Exit.then]); refine bodyPost_ret (results_none rfl _ _ _) rfl ?_)
   exact ⟨rfl, HA4.out, HSAME.out⟩
 | true =>
   rw [if_pos rfl] at H
   obtain rfl := Option.some.inj H
   clear H
   go_wp2
   first | go_end0 | ((try simp only [Exit.inBlock, Exit.then]); refine bodyPost_ret (results_none rfl _ _ _) rfl ?_)
   exact ⟨rfl, ⟨blk_far HA4.out.bp (fun e => HNE.out e.symm) _, by simpa using blk_set HA4.out.bo 0 _, (by obtain ⟨w, hw, hl, hq⟩ := HA4.out.rd; exact ⟨w, hw, hl, hq.trans (Same.setCell _ _ _ (fun hk => by dsimp only at hk; omega))⟩), HA4.out.le⟩, HSAME.out.trans (Same.setCell _ _ _ (fun hk => by dsimp only at hk; omega))⟩
end Go.Proofs.Ytdinepghommchaa.V

-- Written by a program of this session over the kit's printer: wip/gp.py.
namespace Go.Proofs.Ytdinepghommchaa.V
open Go.RowKit Go.Proofs.YtdinepghommchaaW.PrintWords Go.Proofs.YtdinepghommchaaW.PrintLast Go.Proofs.YtdinepghommchaaW.PrintMore
attribute [local go_sem] max2_int min2_int max_two min_two max_three min_three max_four min_four   -- for this text's walks alone
set_option linter.unusedVariables false
set_option linter.unusedSimpArgs false

/-! ### veils_Count: function 17 -/
def veils_cnt.f (l : List Int) (n : Int) : Option Int := if 1 ≤ n ∧ n ≤ 5 then veils_all.f n.toNat (fun t k => veils_Count1.f l t k) 0 else none
mutual
def veils_Count.j0 : Nat → List Int → Int → Bool → Option (Int × Int)
 | 0, _, _, _ => none
 | k + 1, x1, x4, x22 => if x22 = true then (some (0, 2)) else (veils_Count.l0 k x1 x4 x1 (x1.length : Int) 0)
def veils_Count.l0 : Nat → List Int → Int → List Int → Int → Int → Option (Int × Int)
 | 0, _, _, _, _, _ => none
 | k + 1, x1, x4, x23, x24, x25 => if x25 < x24 then (if 0 ≤ x25 then (if x25 < (x23.length : Int) then (if (rd x23 x25) < 0 then (some (0, 2)) else (if (rd x23 x25) ≥ (x1.length : Int) then (some (0, 2)) else (if (rd x23 x25) = x25 then (some (0, 2)) else (if 0 ≤ (rd x23 x25) then (if (rd x23 x25) < (x1.length : Int) then (if (rd x1 (rd x23 x25)) = x25 then (veils_Count.l0 k x1 x4 x23 x24 (wrap64 (x25 + 1))) else (some (0, 2))) else (none)) else (none))))) else (none)) else (none)) else ((veils_cnt.f x1 x4).bind fun t103 => (some (t103, 0)))
end
def veils_Count.f (k : Nat) (l0 : List Int) : Option (Int × Int) := if ((l0.length : Int) % 2) = 1 then (veils_Count.j0 k l0 (wrap64 ((l0.length : Int) / 2)) true) else (if (wrap64 ((l0.length : Int) / 2)) < 1 then (veils_Count.j0 k l0 (wrap64 ((l0.length : Int) / 2)) true) else (veils_Count.j0 k l0 (wrap64 ((l0.length : Int) / 2)) (decide ((wrap64 ((l0.length : Int) / 2)) > 5))))
theorem veils_Count.mono_l : ∀ k, (∀ y0 y1 y2, LeO (veils_Count.j0 k y0 y1 y2) (veils_Count.j0 (k + 1) y0 y1 y2)) ∧ (∀ y0 y1 y2 y3 y4, LeO (veils_Count.l0 k y0 y1 y2 y3 y4) (veils_Count.l0 (k + 1) y0 y1 y2 y3 y4))
 | 0 => ⟨fun _ _ _ r h => by simp [veils_Count.j0] at h, fun _ _ _ _ _ r h => by simp [veils_Count.l0] at h⟩
 | k + 1 => by
  obtain ⟨ih0, ih1⟩ := veils_Count.mono_l k
  refine ⟨?_, ?_⟩
  · intro y0 y1 y2
    unfold veils_Count.j0
    repeat' first
    | (with_reducible exact ih0 _ _ _)
    | (with_reducible exact ih1 _ _ _ _ _)
    | (with_reducible exact LeO.refl _)
    | (with_reducible exact LeO.none _)
    | (with_reducible refine LeO.ite ?_ ?_)
    | (with_reducible refine LeO.bind ?_ (fun _ => ?_))
    | exact ih0 _ _ _
    | exact ih1 _ _ _ _ _
    | exact LeO.none _
    | refine LeO.ite ?_ ?_
    | refine LeO.bind ?_ (fun _ => ?_)
  · intro y0 y1 y2 y3 y4
    unfold veils_Count.l0
    repeat' first
    | (with_reducible exact ih0 _ _ _)
    | (with_reducible exact ih1 _ _ _ _ _)
    | (with_reducible exact LeO.refl _)
    | (with_reducible exact LeO.none _)
    | (with_reducible refine LeO.ite ?_ ?_)
    | (with_reducible refine LeO.bind ?_ (fun _ => ?_))
    | exact ih0 _ _ _
    | exact ih1 _ _ _ _ _
    | exact LeO.none _
    | refine LeO.ite ?_ ?_
    | refine LeO.bind ?_ (fun _ => ?_)
theorem veils_Count.mono : ∀ a0 k, LeO (veils_Count.f k a0) (veils_Count.f (k + 1) a0) := by
 intro a0 k
 obtain ⟨ih0, ih1⟩ := veils_Count.mono_l k
 unfold veils_Count.f
 repeat' first
  | (with_reducible exact ih0 _ _ _)
  | (with_reducible exact ih1 _ _ _ _ _)
  | (with_reducible exact LeO.refl _)
  | (with_reducible exact LeO.none _)
  | (with_reducible refine LeO.ite ?_ ?_)
  | (with_reducible refine LeO.bind ?_ (fun _ => ?_))
  | exact ih0 _ _ _
  | exact ih1 _ _ _ _ _
  | exact LeO.none _
  | refine LeO.ite ?_ ?_
  | refine LeO.bind ?_ (fun _ => ?_)
set_option maxHeartbeats 8000000 in
set_option maxRecDepth 100000 in
theorem veils_Count.calls (k : Nat) (A0 : Option Addr) (c0 : Nat) (l0 : List Int) (r1 : Int) (r2 : Int) (w : World) (hr0 : Kd.C (Kd.int .i64) w A0 l0.length l0) (hc0 : l0.length ≤ c0) (h : veils_Count.f k l0 = some (r1, r2)) :
 Calls Try.prog 17 #[.slice A0 l0.length c0] w fun e w' => e = .returned (.tuple #[.int .i64 r1, .int .i64 r2]) ∧ Below w.heap.size w w' := by
 have HR0 := Aside0.mk hr0
 have HC0 := Aside0.mk hc0
 clear hr0 hc0
 have HB := Aside0.mk (Below.refl w.heap.size w)
 have H : (if ((l0.length : Int) % 2) = 1 then (veils_Count.j0 k l0 (wrap64 ((l0.length : Int) / 2)) true) else (if (wrap64 ((l0.length : Int) / 2)) < 1 then (veils_Count.j0 k l0 (wrap64 ((l0.length : Int) / 2)) true) else (veils_Count.j0 k l0 (wrap64 ((l0.length : Int) / 2)) (decide ((wrap64 ((l0.length : Int) / 2)) > 5))))) = some (r1, r2) := h
 clear h
 have HC2 := Aside0.mk H
 clear H
 have hmf : ∀ (fn : Fn) (first cap : Array Value) (w : World), (Instr.makeFunc fn first cap).run Try.prog w = .ok (.func fn first cap) w := fun _ _ _ _ => rfl
 have HX : Aside0 ((w.alloc (.cells #[.slice A0 l0.length c0] 28)).heap[w.heap.size]? = some (.cells #[.slice A0 l0.length c0] 28 (0, 0))) := ⟨blk_new _ _⟩
 have hcell : (w.alloc (.cells #[.slice A0 l0.length c0] 28)).cell? ⟨w.heap.size, 0, none⟩ = some (.slice A0 l0.length c0) := by
  rw [World.cell?_alloc_at _ _ _ _ rfl]; rfl
 go_enter Try.func17, Try.ntmps17
 go_upto_region 2 with (fail)
 go_cut [22] (fun v22 wc => ∃ (kq : Nat) (x22_1 : Bool), v22 = .bool x22_1 ∧ Aside0 (veils_Count.j0 kq l0 (wrap64 ((l0.length : Int) / 2)) x22_1 = some (r1, r2)) ∧ Aside0 (kq ≤ k) ∧ Aside0 (Below w.heap.size w wc) ∧ Aside0 (wc.heap[w.heap.size]? = some (.cells #[.slice A0 l0.length c0] 28 (0, 0))))
 case first =>
  have H := HC2.out
  clear HC2
  by_cases c3 : ((l0.length : Int) % 2) = 1
  · rw [if_pos c3] at H
    have c3b0 : (((l0.length : Int) % 2) == 1) = true := beq_iff_eq.mpr c3
    have c3b1 : (((l0.length : Int) % 2) != 1) = false := bne_eq_false_iff_eq.mpr c3
    clear c3
    (first | rw [c3b0] | (simp only [i64_w, i32_w]; rw [c3b0]) | skip)
    have H' := Aside0.mk H
    clear H
    go_wp2
    go_meet
    case rel => exact ⟨_, (true), rf_, H', ⟨by first | omega | exact Nat.le_refl _⟩, ⟨bel_⟩, ⟨by (with_reducible repeat (first | exact HX.out | refine blk_drewN ?_ _ | refine blk_drew ?_ | refine blk_alloc ?_ _))⟩⟩
  · rw [if_neg c3] at H
    have c3b0 : (((l0.length : Int) % 2) == 1) = false := beq_eq_false_iff_ne.mpr c3
    have c3b1 : (((l0.length : Int) % 2) != 1) = true := bne_iff_ne.mpr c3
    (first | rw [c3b0] | (simp only [i64_w, i32_w]; rw [c3b0]) | skip)
    by_cases c4 : (wrap64 ((l0.length : Int) / 2)) < 1
    · rw [if_pos c4] at H
      have c4b0 : decide ((wrap64 ((l0.length : Int) / 2)) < 1) = true := decide_eq_true c4
      clear c4
      have H' := Aside0.mk H
      clear H
      go_wp2
      go_meet
      case rel => exact ⟨_, (true), rf_, H', ⟨by first | omega | exact Nat.le_refl _⟩, ⟨bel_⟩, ⟨by (with_reducible repeat (first | exact HX.out | refine blk_drewN ?_ _ | refine blk_drew ?_ | refine blk_alloc ?_ _))⟩⟩
    · rw [if_neg c4] at H
      have c4b0 : decide ((wrap64 ((l0.length : Int) / 2)) < 1) = false := decide_eq_false c4
      clear c4
      have H' := Aside0.mk H
      clear H
      go_wp2
      go_meet
      case rel => exact ⟨_, (decide ((wrap64 ((l0.length : Int) / 2)) > 5)), rf_, H', ⟨by first | omega | exact Nat.le_refl _⟩, ⟨bel_⟩, ⟨by (with_reducible repeat (first | exact HX.out | refine blk_drewN ?_ _ | refine blk_drew ?_ | refine blk_alloc ?_ _))⟩⟩
 case rest =>
  clear HC2
  try clear c1
  try clear p2
  try clear c3
  try clear c3b0
  try clear c3b1
  try clear c4
  try clear c4b0
  obtain ⟨kq, x22_1, rfl, HA, HJ1, HB, HX⟩ := hcut
  clear hcell
  have hcell := (blk_cell HX.out 0).trans (rfl : _ = some (Value.slice A0 l0.length c0))
  cases kq with
  | zero => exact absurd HA.out (by simp [veils_Count.j0])
  | succ kj1 =>
   have H := HA.out
   clear HA
   simp only [veils_Count.j0] at H
   by_cases c5 : x22_1 = true
   · subst c5
     have H1 : (some (0, 2)) = some (r1, r2) := by rw [if_pos rfl] at H; exact H
     clear H
     have H := H1
     clear H1
     simp only [Option.some.injEq, Prod.mk.injEq] at H
     obtain ⟨rfl, rfl⟩ := H
     go_wp2
     go_ret2
     exact ⟨er_, bel_⟩
   · replace c5 := Bool.eq_false_iff.mpr c5
     subst c5
     have H1 : (veils_Count.l0 kj1 l0 (wrap64 ((l0.length : Int) / 2)) l0 (l0.length : Int) 0) = some (r1, r2) := by rw [if_neg (show ¬ (false = true) by decide)] at H; exact H
     clear H
     have H := H1
     clear H1
     have H' := Aside0.mk H
     clear H
     go_wp2
     go_loopg [25] kj1 (fun kq v25 w' => ∃ (x25_2 : Int), v25 = .int .i64 x25_2 ∧ Aside0 (veils_Count.l0 kq l0 (wrap64 ((l0.length : Int) / 2)) l0 (l0.length : Int) x25_2 = some (r1, r2)) ∧ Aside0 (kq ≤ kj1) ∧ Aside0 (Below w.heap.size w w') ∧ Aside0 (w'.heap[w.heap.size]? = some (.cells #[.slice A0 l0.length c0] 28 (0, 0))))
     case atStart => exact ⟨(0), rf_, H', ⟨Nat.le_refl _⟩, ⟨bel_⟩, ⟨by (with_reducible repeat (first | exact HX.out | refine blk_drewN ?_ _ | refine blk_drew ?_ | refine blk_alloc ?_ _))⟩⟩
     case round =>
      clear H'
      try clear c1
      try clear p2
      try clear c3
      try clear c3b0
      try clear c3b1
      try clear c4
      try clear c4b0
      try clear c5
      try clear p2
      obtain ⟨x25_2, rfl, HA, HK2, HB, HX⟩ := hrel
      clear hcell
      have hcell := (blk_cell HX.out 0).trans (rfl : _ = some (Value.slice A0 l0.length c0))
      cases gk with
      | zero => exact absurd HA.out (by simp [veils_Count.l0])
      | succ k2 =>
       have H := HA.out
       clear HA
       simp only [veils_Count.l0] at H
       by_cases c6 : x25_2 < (l0.length : Int)
       · rw [if_pos c6] at H
         have c6b0 : decide (x25_2 < (l0.length : Int)) = true := decide_eq_true c6
         clear c6
         by_cases c7 : 0 ≤ x25_2
         · rw [if_pos c7] at H
           have c7b0 : decide (0 ≤ x25_2) = true := decide_eq_true c7
           clear c7
           by_cases c8 : x25_2 < (l0.length : Int)
           · rw [if_pos c8] at H
             have c8b0 : decide (x25_2 < (l0.length : Int)) = true := decide_eq_true c8
             clear c8
             by_cases c9 : (rd l0 x25_2) < 0
             · rw [if_pos c9] at H
               have c9b0 : decide ((rd l0 x25_2) < 0) = true := decide_eq_true c9
               clear c9
               simp only [Option.some.injEq, Prod.mk.injEq] at H
               obtain ⟨rfl, rfl⟩ := H
               obtain ⟨ad101, e101, hx101_0, p101, q101⟩ := ai_ HR0.out x25_2
               cases e101
               replace hx101_0 := (HB.out.cell (World.block_lt_of_cell? w _ hx101_0)).trans hx101_0
               go_wp2
               go_ret2
               exact ⟨er_, bel_⟩
             · rw [if_neg c9] at H
               have c9b0 : decide ((rd l0 x25_2) < 0) = false := decide_eq_false c9
               clear c9
               by_cases c10 : (rd l0 x25_2) ≥ (l0.length : Int)
               · rw [if_pos c10] at H
                 have c10b0 : decide ((l0.length : Int) ≤ (rd l0 x25_2)) = true := decide_eq_true c10
                 clear c10
                 simp only [Option.some.injEq, Prod.mk.injEq] at H
                 obtain ⟨rfl, rfl⟩ := H
                 obtain ⟨ad101, e101, hx101_0, p101, q101⟩ := ai_ HR0.out x25_2
                 cases e101
                 replace hx101_0 := (HB.out.cell (World.block_lt_of_cell? w _ hx101_0)).trans hx101_0
                 go_wp2
                 go_ret2
                 exact ⟨er_, bel_⟩
               · rw [if_neg c10] at H
                 have c10b0 : decide ((l0.length : Int) ≤ (rd l0 x25_2)) = false := decide_eq_false c10
                 clear c10
                 by_cases c11 : (rd l0 x25_2) = x25_2
                 · rw [if_pos c11] at H
                   have c11b0 : ((rd l0 x25_2) == x25_2) = true := beq_iff_eq.mpr c11
                   have c11b1 : ((rd l0 x25_2) != x25_2) = false := bne_eq_false_iff_eq.mpr c11
                   clear c11
                   simp only [Option.some.injEq, Prod.mk.injEq] at H
                   obtain ⟨rfl, rfl⟩ := H
                   obtain ⟨ad101, e101, hx101_0, p101, q101⟩ := ai_ HR0.out x25_2
                   cases e101
                   replace hx101_0 := (HB.out.cell (World.block_lt_of_cell? w _ hx101_0)).trans hx101_0
                   go_wp2
                   go_ret2
                   exact ⟨er_, bel_⟩
                 · rw [if_neg c11] at H
                   have c11b0 : ((rd l0 x25_2) == x25_2) = false := beq_eq_false_iff_ne.mpr c11
                   have c11b1 : ((rd l0 x25_2) != x25_2) = true := bne_iff_ne.mpr c11
                   by_cases c12 : 0 ≤ (rd l0 x25_2)
                   · rw [if_pos c12] at H
                     have c12b0 : decide (0 ≤ (rd l0 x25_2)) = true := decide_eq_true c12
                     clear c12
                     by_cases c13 : (rd l0 x25_2) < (l0.length : Int)
                     · rw [if_pos c13] at H
                       have c13b0 : decide ((rd l0 x25_2) < (l0.length : Int)) = true := decide_eq_true c13
                       clear c13
                       by_cases c14 : (rd l0 (rd l0 x25_2)) = x25_2
                       · rw [if_pos c14] at H
                         have c14b0 : ((rd l0 (rd l0 x25_2)) == x25_2) = true := beq_iff_eq.mpr c14
                         have c14b1 : ((rd l0 (rd l0 x25_2)) != x25_2) = false := bne_eq_false_iff_eq.mpr c14
                         clear c14
                         have H' := Aside0.mk H
                         clear H
                         obtain ⟨ad101, e101, hx101_0, p101, q101⟩ := ai_ HR0.out x25_2
                         cases e101
                         replace hx101_0 := (HB.out.cell (World.block_lt_of_cell? w _ hx101_0)).trans hx101_0
                         obtain ⟨ad102, e102, hx102_0, p102, q102⟩ := ai_ HR0.out (rd l0 x25_2)
                         obtain rfl : ad101 = ad102 := (by injection e102)
                         replace hx102_0 := (HB.out.cell (World.block_lt_of_cell? w _ hx102_0)).trans hx102_0
                         go_wp2
                         go_roundg k2
                         case measure => have := HJ1.out; have := HK2.out; omega
                         case rel => exact ⟨(wrap64 (x25_2 + 1)), rf_, H', ⟨by have := HJ1.out; have := HK2.out; omega⟩, ⟨bel_⟩, ⟨by (with_reducible repeat (first | exact HX.out | refine blk_drewN ?_ _ | refine blk_drew ?_ | refine blk_alloc ?_ _))⟩⟩
                       · rw [if_neg c14] at H
                         have c14b0 : ((rd l0 (rd l0 x25_2)) == x25_2) = false := beq_eq_false_iff_ne.mpr c14
                         have c14b1 : ((rd l0 (rd l0 x25_2)) != x25_2) = true := bne_iff_ne.mpr c14
                         simp only [Option.some.injEq, Prod.mk.injEq] at H
                         obtain ⟨rfl, rfl⟩ := H
                         obtain ⟨ad101, e101, hx101_0, p101, q101⟩ := ai_ HR0.out x25_2
                         cases e101
                         replace hx101_0 := (HB.out.cell (World.block_lt_of_cell? w _ hx101_0)).trans hx101_0
                         obtain ⟨ad102, e102, hx102_0, p102, q102⟩ := ai_ HR0.out (rd l0 x25_2)
                         obtain rfl : ad101 = ad102 := (by injection e102)
                         replace hx102_0 := (HB.out.cell (World.block_lt_of_cell? w _ hx102_0)).trans hx102_0
                         go_wp2
                         go_ret2
                         exact ⟨er_, bel_⟩
                     · rw [if_neg c13] at H
                       exact absurd H (by simp)
                   · rw [if_neg c12] at H
                     exact absurd H (by simp)
           · rw [if_neg c8] at H
             exact absurd H (by simp)
         · rw [if_neg c7] at H
           exact absurd H (by simp)
       · rw [if_neg c6] at H
         have c6b0 : decide (x25_2 < (l0.length : Int)) = false := decide_eq_false c6
         clear c6
         replace H := Option.bind_eq_some_iff.mp H
         obtain ⟨t103, A150, H⟩ := H
         replace H : (some (t103, 0)) = some (r1, r2) := H
         have A15 := Aside0.mk A150
         clear A150
         simp only [Option.some.injEq, Prod.mk.injEq] at H
         obtain ⟨rfl, rfl⟩ := H
         have hz := A15.out
         unfold veils_cnt.f at hz
         by_cases cn : 1 ≤ wrap64 ((l0.length : Int) / 2) ∧ wrap64 ((l0.length : Int) / 2) ≤ 5
         rotate_left
         · rw [if_neg cn] at hz
           cases hz
         rw [if_pos cn] at hz
         obtain ⟨m, em⟩ := Int.eq_ofNat_of_zero_le (show 0 ≤ wrap64 ((l0.length : Int) / 2) by omega)
         have hm : wrap64 ((l0.length : Int) / 2) = (m : Int) := em
         rw [hm, Int.toNat_natCast] at hz
         rw [hm] at cn
         have HZ := Aside0.mk hz
         have HRD := Aside0.mk (show ∃ w0, Kd.C (Kd.int .i64) w0 A0 l0.length l0 ∧ w0.heap.size ≤ w.heap.size ∧ Same (fun k => k < w.heap.size) w0 wr from ⟨w, HR0.out, Nat.le_refl _, ⟨HB.out.os, HB.out.tape, HB.out.output, HB.out.size, fun k hk _ => HB.out.block k hk⟩⟩)
         have HM : Aside0 (∀ W1, W1.heap.size = wr.heap.size + 1 → Below wr.heap.size wr W1 → W1.heap[wr.heap.size]? = some (.cells #[.int .i64 0] 3 (0, 0)) → Calls Try.prog 41 #[.int .i64 (wrap64 ((l0.length : Int) / 2)), .func (.func 47) #[] #[.pointer (some ⟨w.heap.size, 0, none⟩), .pointer (some ⟨wr.heap.size, 0, none⟩)]] W1 fun e W' => e = .returned (.tuple #[]) ∧ W'.heap[wr.heap.size]? = some (.cells #[.int .i64 t103] 3 (0, 0)) ∧ Below w.heap.size w W') := ⟨fun W1 hsz hb1 hbo => by
           rw [hm]
           have h1 := HB.out.size
           have l1 := blk_lt HX.out
           have hF : Aside0 (∀ hi, W1.heap.size ≤ hi → Found w.heap.size W1.heap.size hi 47 #[.pointer (some ⟨w.heap.size, 0, none⟩), .pointer (some ⟨wr.heap.size, 0, none⟩)] (fun t k => veils_Count1.f l0 t k) ((fun _ => AccCount A0 c0 w.heap.size wr.heap.size w.heap.size l0) hi)) := ⟨fun hi hh =>
            ⟨fun W A c t a b hw hr hc ha h => veils_Count1.calls (lo0 := w.heap.size) (lo := W1.heap.size) (hi := hi) h1 (by omega) (by omega) (by omega) h1 l0 A0 c0 W A c t a b hw hr hc ha h, fun W W' a ha hs => AccCount.same ha (by omega) (by omega) (by omega) hs⟩⟩
           have hA : AccCount A0 c0 w.heap.size wr.heap.size w.heap.size l0 W1 0 := ⟨blk_below HX.out hb1, hbo, (by obtain ⟨w0, a1, a2, a3⟩ := HRD.out; exact ⟨w0, a1, a2, a3.trans (Same.of_below hb1)⟩), HC0.out⟩
           refine (veils_all.calls (lo0 := w.heap.size) (Acc := fun _ => AccCount A0 c0 w.heap.size wr.heap.size w.heap.size l0) (by omega) (by omega) Try.func47 (by kernel_rfl) rfl 0 t103 W1 hF (by omega) ⟨fun _ _ => hA⟩ ⟨HZ.out⟩).mono ?_
           rintro e W' ⟨rfl, ⟨hi, _, hacc⟩, hs⟩
           exact ⟨rfl, hacc.bo, HB.out.trans ⟨hs.os.trans hb1.os, hs.tape.trans hb1.tape, hs.output.trans hb1.output, Nat.le_trans hb1.size hs.size, fun k hk => (hs.block k hk (by omega)).trans (hb1.block k (by omega))⟩⟩⟩
         clear hz em hm cn hcell
         go_wp2_with (go_at_call 41; refine (HM.out _ (by simp) (by repeat (first | exact Below.refl _ _ | apply below_alloc | apply pw_below_drewN)) (by first | exact blk_new _ _ | exact blk_drewN (blk_new _ _) _)).mono ?_; rintro e w16 ⟨rfl, hbo, hb⟩; have co := (blk_cell hbo 0).trans (rfl : _ = some (Value.int .i64 t103)); clear HB; have HB := Aside0.mk hb; clear hb hbo)
         go_ret2
         exact ⟨er_, bel_⟩

end Go.Proofs.Ytdinepghommchaa.V

-- Written by a program of this session over the kit's printer: wip/gp.py.
namespace Go.Proofs.Ytdinepghommchaa.V
open Go.RowKit Go.Proofs.YtdinepghommchaaW.PrintWords Go.Proofs.YtdinepghommchaaW.PrintLast Go.Proofs.YtdinepghommchaaW.PrintMore
attribute [local go_sem] max2_int min2_int max_two min_two max_three min_three max_four min_four   -- for this text's walks alone
set_option linter.unusedVariables false
set_option linter.unusedSimpArgs false

/-! ### clocheref09_Same: function 14 -/
mutual
def clocheref09_Same.l0 : Nat → List (List Int) → List (List Int) → Int → Option (Bool)
 | 0, _, _, _ => none
 | k + 1, x0, x1, x5 => if x5 < (x0.length : Int) then (if 0 ≤ x5 then (if x5 < (x1.length : Int) then (if ((rd_L1 x0 x5).length : Int) = ((rd_L1 x1 x5).length : Int) then (clocheref09_Same.l1 k x0 x1 x5 0) else (some false)) else (none)) else (none)) else (some true)
def clocheref09_Same.l1 : Nat → List (List Int) → List (List Int) → Int → Int → Option (Bool)
 | 0, _, _, _, _ => none
 | k + 1, x0, x1, x5, x6 => if 0 ≤ x5 then (if x5 < (x0.length : Int) then (if x6 < ((rd_L1 x0 x5).length : Int) then (if 0 ≤ x6 then (if x5 < (x1.length : Int) then (if x6 < ((rd_L1 x1 x5).length : Int) then (if (rd (rd_L1 x0 x5) x6) = (rd (rd_L1 x1 x5) x6) then (clocheref09_Same.l1 k x0 x1 x5 (wrap64 (x6 + 1))) else (some false)) else (none)) else (none)) else (none)) else (clocheref09_Same.l0 k x0 x1 (wrap64 (x5 + 1)))) else (none)) else (none)
end
def clocheref09_Same.f (k : Nat) (l0 : List (List Int)) (l1 : List (List Int)) : Option (Bool) := if (l0.length : Int) = (l1.length : Int) then (clocheref09_Same.l0 k l0 l1 0) else (some false)
theorem clocheref09_Same.mono_l : ∀ k, (∀ y0 y1 y2, LeO (clocheref09_Same.l0 k y0 y1 y2) (clocheref09_Same.l0 (k + 1) y0 y1 y2)) ∧ (∀ y0 y1 y2 y3, LeO (clocheref09_Same.l1 k y0 y1 y2 y3) (clocheref09_Same.l1 (k + 1) y0 y1 y2 y3))
 | 0 => ⟨fun _ _ _ r h => by simp [clocheref09_Same.l0] at h, fun _ _ _ _ r h => by simp [clocheref09_Same.l1] at h⟩
 | k + 1 => by
  obtain ⟨ih0, ih1⟩ := clocheref09_Same.mono_l k
  refine ⟨?_, ?_⟩
  · intro y0 y1 y2
    unfold clocheref09_Same.l0
    repeat' first
    | (with_reducible exact ih0 _ _ _)
    | (with_reducible exact ih1 _ _ _ _)
    | (with_reducible exact LeO.refl _)
    | (with_reducible exact LeO.none _)
    | (with_reducible refine LeO.ite ?_ ?_)
    | (with_reducible refine LeO.bind ?_ (fun _ => ?_))
    | exact ih0 _ _ _
    | exact ih1 _ _ _ _
    | exact LeO.none _
    | refine LeO.ite ?_ ?_
    | refine LeO.bind ?_ (fun _ => ?_)
  · intro y0 y1 y2 y3
    unfold clocheref09_Same.l1
    repeat' first
    | (with_reducible exact ih0 _ _ _)
    | (with_reducible exact ih1 _ _ _ _)
    | (with_reducible exact LeO.refl _)
    | (with_reducible exact LeO.none _)
    | (with_reducible refine LeO.ite ?_ ?_)
    | (with_reducible refine LeO.bind ?_ (fun _ => ?_))
    | exact ih0 _ _ _
    | exact ih1 _ _ _ _
    | exact LeO.none _
    | refine LeO.ite ?_ ?_
    | refine LeO.bind ?_ (fun _ => ?_)
theorem clocheref09_Same.mono : ∀ a0 a1 k, LeO (clocheref09_Same.f k a0 a1) (clocheref09_Same.f (k + 1) a0 a1) := by
 intro a0 a1 k
 obtain ⟨ih0, ih1⟩ := clocheref09_Same.mono_l k
 unfold clocheref09_Same.f
 repeat' first
  | (with_reducible exact ih0 _ _ _)
  | (with_reducible exact ih1 _ _ _ _)
  | (with_reducible exact LeO.refl _)
  | (with_reducible exact LeO.none _)
  | (with_reducible refine LeO.ite ?_ ?_)
  | (with_reducible refine LeO.bind ?_ (fun _ => ?_))
  | exact ih0 _ _ _
  | exact ih1 _ _ _ _
  | exact LeO.none _
  | refine LeO.ite ?_ ?_
  | refine LeO.bind ?_ (fun _ => ?_)
set_option maxHeartbeats 8000000 in
set_option maxRecDepth 100000 in
theorem clocheref09_Same.calls (k : Nat) (A0 : Option Addr) (c0 : Nat) (l0 : List (List Int)) (A1 : Option Addr) (c1 : Nat) (l1 : List (List Int)) (r : Bool) (w : World) (hr0 : Kd.C (Kd.slice 3 (Kd.int .i64)) w A0 l0.length l0) (hc0 : l0.length ≤ c0) (hr1 : Kd.C (Kd.slice 3 (Kd.int .i64)) w A1 l1.length l1) (hc1 : l1.length ≤ c1) (h : clocheref09_Same.f k l0 l1 = some r) :
 Calls Try.prog 14 #[.slice A0 l0.length c0, .slice A1 l1.length c1] w fun e w' => e = .returned (.bool r) ∧ Drawn0 w w' := by
 have HR0 := Aside0.mk hr0
 have HC0 := Aside0.mk hc0
 clear hr0 hc0
 have HR1 := Aside0.mk hr1
 have HC1 := Aside0.mk hc1
 clear hr1 hc1
 have H : (if (l0.length : Int) = (l1.length : Int) then (clocheref09_Same.l0 k l0 l1 0) else (some false)) = some r := h
 clear h
 by_cases c3 : (l0.length : Int) = (l1.length : Int)
 · rw [if_pos c3] at H
   have c3b0 : ((l0.length : Int) == (l1.length : Int)) = true := beq_iff_eq.mpr c3
   have c3b1 : ((l0.length : Int) != (l1.length : Int)) = false := bne_eq_false_iff_eq.mpr c3
   have c3b2 : (l0.length == l1.length) = true := by first | simpa using c3 | (simp at c3 ⊢; omega)
   clear c3
   have H' := Aside0.mk H
   clear H
   go_enter Try.func14, Try.ntmps14
   go_wp2
   repeat (go_quiet (fail); try go_wp2)
   go_loopg [5] k (fun kq v5 w' => ∃ (x5_1 : Int), v5 = .int .i64 x5_1 ∧ Aside0 (clocheref09_Same.l0 kq l0 l1 x5_1 = some r) ∧ Aside0 (kq ≤ k) ∧ Drawn0 w w')
   case atStart => exact ⟨(0), rf_, H', ⟨Nat.le_refl _⟩, dr_⟩
   case round =>
    clear H'
    try clear c1
    try clear p2
    try clear c3
    try clear c3b0
    try clear c3b1
    try clear c3b2
    obtain ⟨x5_1, rfl, HA, HK1, ⟨m1, rfl⟩⟩ := hrel
    cases gk with
    | zero => exact absurd HA.out (by simp [clocheref09_Same.l0])
    | succ k1 =>
     have H := HA.out
     clear HA
     simp only [clocheref09_Same.l0] at H
     by_cases c4 : x5_1 < (l0.length : Int)
     · rw [if_pos c4] at H
       have c4b0 : decide (x5_1 < (l0.length : Int)) = true := decide_eq_true c4
       clear c4
       by_cases c5 : 0 ≤ x5_1
       · rw [if_pos c5] at H
         have c5b0 : decide (0 ≤ x5_1) = true := decide_eq_true c5
         clear c5
         by_cases c6 : x5_1 < (l1.length : Int)
         · rw [if_pos c6] at H
           have c6b0 : decide (x5_1 < (l1.length : Int)) = true := decide_eq_true c6
           clear c6
           by_cases c7 : ((rd_L1 l0 x5_1).length : Int) = ((rd_L1 l1 x5_1).length : Int)
           · rw [if_pos c7] at H
             have c7b0 : (((rd_L1 l0 x5_1).length : Int) == ((rd_L1 l1 x5_1).length : Int)) = true := beq_iff_eq.mpr c7
             have c7b1 : (((rd_L1 l0 x5_1).length : Int) != ((rd_L1 l1 x5_1).length : Int)) = false := bne_eq_false_iff_eq.mpr c7
             have c7b2 : ((rd_L1 l0 x5_1).length == (rd_L1 l1 x5_1).length) = true := by first | simpa using c7 | (simp at c7 ⊢; omega)
             clear c7
             have H' := Aside0.mk H
             clear H
             obtain ⟨ad120, A120_0, c120_0, e120, hx120_0, HC120_0, HR120_0, p120, q120⟩ := al_ HR0.out x5_1
             cases e120
             obtain ⟨ad121, A121_0, c121_0, e121, hx121_0, HC121_0, HR121_0, p121, q121⟩ := al_ HR1.out x5_1
             cases e121
             go_wp2
             repeat (go_quiet (fail); try go_wp2)
             go_loopg [6] k1 (fun kq v6 w' => ∃ (x6_2 : Int), v6 = .int .i64 x6_2 ∧ Aside0 (clocheref09_Same.l1 kq l0 l1 x5_1 x6_2 = some r) ∧ Aside0 (kq ≤ k1) ∧ Drawn0 w w')
             case atStart => exact ⟨(0), rf_, H', ⟨Nat.le_refl _⟩, dr_⟩
             case round =>
              clear H'
              try clear c1
              try clear p1
              try clear q1
              try clear hx1
              try clear p2
              try clear c3
              try clear c3b0
              try clear c3b1
              try clear c3b2
              try clear c4
              try clear c4b0
              try clear c5
              try clear c5b0
              try clear c6
              try clear c6b0
              try clear c7
              try clear c7b0
              try clear c7b1
              try clear c7b2
              try clear hx120_0
              try clear hx121_0
              try clear p120
              try clear p121
              try clear p2
              try clear q120
              try clear q121
              obtain ⟨x6_2, rfl, HA, HK2, ⟨m2, rfl⟩⟩ := hrel
              cases gk with
              | zero => exact absurd HA.out (by simp [clocheref09_Same.l1])
              | succ k2 =>
               have H := HA.out
               clear HA
               simp only [clocheref09_Same.l1] at H
               by_cases c8 : 0 ≤ x5_1
               · rw [if_pos c8] at H
                 have c8b0 : decide (0 ≤ x5_1) = true := decide_eq_true c8
                 clear c8
                 by_cases c9 : x5_1 < (l0.length : Int)
                 · rw [if_pos c9] at H
                   have c9b0 : decide (x5_1 < (l0.length : Int)) = true := decide_eq_true c9
                   clear c9
                   by_cases c10 : x6_2 < ((rd_L1 l0 x5_1).length : Int)
                   · rw [if_pos c10] at H
                     have c10b0 : decide (x6_2 < ((rd_L1 l0 x5_1).length : Int)) = true := decide_eq_true c10
                     clear c10
                     by_cases c11 : 0 ≤ x6_2
                     · rw [if_pos c11] at H
                       have c11b0 : decide (0 ≤ x6_2) = true := decide_eq_true c11
                       clear c11
                       by_cases c12 : x5_1 < (l1.length : Int)
                       · rw [if_pos c12] at H
                         have c12b0 : decide (x5_1 < (l1.length : Int)) = true := decide_eq_true c12
                         clear c12
                         by_cases c13 : x6_2 < ((rd_L1 l1 x5_1).length : Int)
                         · rw [if_pos c13] at H
                           have c13b0 : decide (x6_2 < ((rd_L1 l1 x5_1).length : Int)) = true := decide_eq_true c13
                           clear c13
                           by_cases c14 : (rd (rd_L1 l0 x5_1) x6_2) = (rd (rd_L1 l1 x5_1) x6_2)
                           · rw [if_pos c14] at H
                             have c14b0 : ((rd (rd_L1 l0 x5_1) x6_2) == (rd (rd_L1 l1 x5_1) x6_2)) = true := beq_iff_eq.mpr c14
                             have c14b1 : ((rd (rd_L1 l0 x5_1) x6_2) != (rd (rd_L1 l1 x5_1) x6_2)) = false := bne_eq_false_iff_eq.mpr c14
                             clear c14
                             have H' := Aside0.mk H
                             clear H
                             obtain ⟨ad122, A122_0, c122_0, e122, hx122_0, HC122_0, HR122_0, p122, q122⟩ := al_ HR0.out x5_1
                             obtain rfl : ad120 = ad122 := (by injection e122)
                             obtain ⟨ad123, A123_0, c123_0, e123, hx123_0, HC123_0, HR123_0, p123, q123⟩ := al_ HR0.out x5_1
                             obtain rfl : ad120 = ad123 := (by injection e123)
                             have ea_ := Option.some.inj (hx122_0.symm.trans hx123_0)
                             injection ea_ with ea_ en_ ec_
                             subst ea_
                             subst ec_
                             clear en_
                             obtain ⟨ad124, e124, hx124_0, p124, q124⟩ := ai_ HR123_0.out x6_2
                             cases e124
                             obtain ⟨ad125, A125_0, c125_0, e125, hx125_0, HC125_0, HR125_0, p125, q125⟩ := al_ HR1.out x5_1
                             obtain rfl : ad121 = ad125 := (by injection e125)
                             obtain ⟨ad126, e126, hx126_0, p126, q126⟩ := ai_ HR125_0.out x6_2
                             cases e126
                             go_wp2
                             repeat (go_quiet (fail); try go_wp2)
                             go_roundg k2
                             case measure => have := HK1.out; have := HK2.out; omega
                             case rel => exact ⟨(wrap64 (x6_2 + 1)), rf_, H', ⟨by have := HK1.out; have := HK2.out; omega⟩, dr_⟩
                           · rw [if_neg c14] at H
                             have c14b0 : ((rd (rd_L1 l0 x5_1) x6_2) == (rd (rd_L1 l1 x5_1) x6_2)) = false := beq_eq_false_iff_ne.mpr c14
                             have c14b1 : ((rd (rd_L1 l0 x5_1) x6_2) != (rd (rd_L1 l1 x5_1) x6_2)) = true := bne_iff_ne.mpr c14
                             obtain rfl := Option.some.inj H
                             obtain ⟨ad122, A122_0, c122_0, e122, hx122_0, HC122_0, HR122_0, p122, q122⟩ := al_ HR0.out x5_1
                             obtain rfl : ad120 = ad122 := (by injection e122)
                             obtain ⟨ad123, A123_0, c123_0, e123, hx123_0, HC123_0, HR123_0, p123, q123⟩ := al_ HR0.out x5_1
                             obtain rfl : ad120 = ad123 := (by injection e123)
                             have ea_ := Option.some.inj (hx122_0.symm.trans hx123_0)
                             injection ea_ with ea_ en_ ec_
                             subst ea_
                             subst ec_
                             clear en_
                             obtain ⟨ad124, e124, hx124_0, p124, q124⟩ := ai_ HR123_0.out x6_2
                             cases e124
                             obtain ⟨ad125, A125_0, c125_0, e125, hx125_0, HC125_0, HR125_0, p125, q125⟩ := al_ HR1.out x5_1
                             obtain rfl : ad121 = ad125 := (by injection e125)
                             obtain ⟨ad126, e126, hx126_0, p126, q126⟩ := ai_ HR125_0.out x6_2
                             cases e126
                             go_wp2
                             repeat (go_quiet (fail); try go_wp2)
                             go_ret
                             exact ⟨rf_, dr_⟩
                         · rw [if_neg c13] at H
                           exact absurd H (by simp)
                       · rw [if_neg c12] at H
                         exact absurd H (by simp)
                     · rw [if_neg c11] at H
                       exact absurd H (by simp)
                   · rw [if_neg c10] at H
                     have c10b0 : decide (x6_2 < ((rd_L1 l0 x5_1).length : Int)) = false := decide_eq_false c10
                     clear c10
                     have H' := Aside0.mk H
                     clear H
                     obtain ⟨ad122, A122_0, c122_0, e122, hx122_0, HC122_0, HR122_0, p122, q122⟩ := al_ HR0.out x5_1
                     obtain rfl : ad120 = ad122 := (by injection e122)
                     go_wp2
                     repeat (go_quiet (fail); try go_wp2)
                     go_roundg k2
                     case measure => have := HK1.out; have := HK2.out; omega
                     case rel => exact ⟨(wrap64 (x5_1 + 1)), rf_, H', ⟨by have := HK1.out; have := HK2.out; omega⟩, dr_⟩
                 · rw [if_neg c9] at H
                   exact absurd H (by simp)
               · rw [if_neg c8] at H
                 exact absurd H (by simp)
           · rw [if_neg c7] at H
             have c7b0 : (((rd_L1 l0 x5_1).length : Int) == ((rd_L1 l1 x5_1).length : Int)) = false := beq_eq_false_iff_ne.mpr c7
             have c7b1 : (((rd_L1 l0 x5_1).length : Int) != ((rd_L1 l1 x5_1).length : Int)) = true := bne_iff_ne.mpr c7
             have c7b2 : ((rd_L1 l0 x5_1).length == (rd_L1 l1 x5_1).length) = false := by first | simpa using c7 | (simp at c7 ⊢; omega)
             obtain rfl := Option.some.inj H
             obtain ⟨ad120, A120_0, c120_0, e120, hx120_0, HC120_0, HR120_0, p120, q120⟩ := al_ HR0.out x5_1
             cases e120
             obtain ⟨ad121, A121_0, c121_0, e121, hx121_0, HC121_0, HR121_0, p121, q121⟩ := al_ HR1.out x5_1
             cases e121
             go_wp2
             repeat (go_quiet (fail); try go_wp2)
             go_ret
             exact ⟨rf_, dr_⟩
         · rw [if_neg c6] at H
           exact absurd H (by simp)
       · rw [if_neg c5] at H
         exact absurd H (by simp)
     · rw [if_neg c4] at H
       have c4b0 : decide (x5_1 < (l0.length : Int)) = false := decide_eq_false c4
       clear c4
       obtain rfl := Option.some.inj H
       go_wp2
       repeat (go_quiet (fail); try go_wp2)
       go_ret
       exact ⟨rf_, dr_⟩
 · rw [if_neg c3] at H
   have c3b0 : ((l0.length : Int) == (l1.length : Int)) = false := beq_eq_false_iff_ne.mpr c3
   have c3b1 : ((l0.length : Int) != (l1.length : Int)) = true := bne_iff_ne.mpr c3
   have c3b2 : (l0.length == l1.length) = false := by first | simpa using c3 | (simp at c3 ⊢; omega)
   obtain rfl := Option.some.inj H
   go_enter Try.func14, Try.ntmps14
   go_wp2
   repeat (go_quiet (fail); try go_wp2)
   go_ret
   exact ⟨rf_, dr_⟩

end Go.Proofs.Ytdinepghommchaa.V

-- Written by a program of this session over the kit's printer: wip/gp.py.
namespace Go.Proofs.Ytdinepghommchaa.V
open Go.RowKit Go.Proofs.YtdinepghommchaaW.PrintWords Go.Proofs.YtdinepghommchaaW.PrintLast Go.Proofs.YtdinepghommchaaW.PrintMore
attribute [local go_sem] max2_int min2_int max_two min_two max_three min_three max_four min_four   -- for this text's walks alone
set_option linter.unusedVariables false
set_option linter.unusedSimpArgs false

/-! ### veils_alternates: function 70 -/
def veils_alternates.l0 : Nat → Int → List Int → Int → Int → Option (Bool)
 | 0, _, _, _, _ => none
 | k + 1, x3, x6, x7, x8 => if x8 < x7 then (if 0 ≤ x8 then (if x8 < (x6.length : Int) then (if (rd x6 x8) < (-1) then (some false) else (if (rd x6 x8) > 1 then (some false) else (if (wrap64 (x3 + (rd x6 x8))) < 0 then (some false) else (if (wrap64 (x3 + (rd x6 x8))) > 1 then (some false) else (veils_alternates.l0 k (wrap64 (x3 + (rd x6 x8))) x6 x7 (wrap64 (x8 + 1))))))) else (none)) else (none)) else (some (x3 == 1))
def veils_alternates.f (k : Nat) (l0 : List Int) : Option (Bool) := veils_alternates.l0 k 0 l0 (l0.length : Int) 0
theorem veils_alternates.mono_l : ∀ k, (∀ y0 y1 y2 y3, LeO (veils_alternates.l0 k y0 y1 y2 y3) (veils_alternates.l0 (k + 1) y0 y1 y2 y3))
 | 0 => fun _ _ _ _ r h => by simp [veils_alternates.l0] at h
 | k + 1 => by
  have ih0 := veils_alternates.mono_l k
  · intro y0 y1 y2 y3
    unfold veils_alternates.l0
    repeat' first
    | (with_reducible exact ih0 _ _ _ _)
    | (with_reducible exact LeO.refl _)
    | (with_reducible exact LeO.none _)
    | (with_reducible refine LeO.ite ?_ ?_)
    | (with_reducible refine LeO.bind ?_ (fun _ => ?_))
    | exact ih0 _ _ _ _
    | exact LeO.none _
    | refine LeO.ite ?_ ?_
    | refine LeO.bind ?_ (fun _ => ?_)
theorem veils_alternates.mono : ∀ a0 k, LeO (veils_alternates.f k a0) (veils_alternates.f (k + 1) a0) := by
 intro a0 k
 have ih0 := veils_alternates.mono_l k
 unfold veils_alternates.f
 repeat' first
  | (with_reducible exact ih0 _ _ _ _)
  | (with_reducible exact LeO.refl _)
  | (with_reducible exact LeO.none _)
  | (with_reducible refine LeO.ite ?_ ?_)
  | (with_reducible refine LeO.bind ?_ (fun _ => ?_))
  | exact ih0 _ _ _ _
  | exact LeO.none _
  | refine LeO.ite ?_ ?_
  | refine LeO.bind ?_ (fun _ => ?_)
set_option maxHeartbeats 8000000 in
set_option maxRecDepth 100000 in
theorem veils_alternates.calls (k : Nat) (A0 : Option Addr) (c0 : Nat) (l0 : List Int) (r : Bool) (w : World) (hr0 : Kd.C (Kd.int .i64) w A0 l0.length l0) (hc0 : l0.length ≤ c0) (h : veils_alternates.f k l0 = some r) :
 Calls Try.prog 70 #[.slice A0 l0.length c0] w fun e w' => e = .returned (.bool r) ∧ Drawn0 w w' := by
 have HR0 := Aside0.mk hr0
 have HC0 := Aside0.mk hc0
 clear hr0 hc0
 have H : (veils_alternates.l0 k 0 l0 (l0.length : Int) 0) = some r := h
 clear h
 have H' := Aside0.mk H
 clear H
 go_enter Try.func70, Try.ntmps70
 go_wp2
 go_loopg [3, 8] k (fun kq v3 v8 w' => ∃ (x3_1 : Int) (x8_1 : Int), v3 = .int .i64 x3_1 ∧ v8 = .int .i64 x8_1 ∧ Aside0 (veils_alternates.l0 kq x3_1 l0 (l0.length : Int) x8_1 = some r) ∧ Aside0 (kq ≤ k) ∧ Drawn0 w w')
 case atStart => exact ⟨(0), (0), rf_, rf_, H', ⟨Nat.le_refl _⟩, dr_⟩
 case round =>
  clear H'
  obtain ⟨x3_1, x8_1, rfl, rfl, HA, HK1, ⟨m1, rfl⟩⟩ := hrel
  cases gk with
  | zero => exact absurd HA.out (by simp [veils_alternates.l0])
  | succ k1 =>
    have H := HA.out
    clear HA
    simp only [veils_alternates.l0] at H
    by_cases c2 : x8_1 < (l0.length : Int)
    · rw [if_pos c2] at H
      have c2b0 : decide (x8_1 < (l0.length : Int)) = true := decide_eq_true c2
      clear c2
      by_cases c3 : 0 ≤ x8_1
      · rw [if_pos c3] at H
        have c3b0 : decide (0 ≤ x8_1) = true := decide_eq_true c3
        clear c3
        by_cases c4 : x8_1 < (l0.length : Int)
        · rw [if_pos c4] at H
          have c4b0 : decide (x8_1 < (l0.length : Int)) = true := decide_eq_true c4
          clear c4
          by_cases c5 : (rd l0 x8_1) < (-1)
          · rw [if_pos c5] at H
            have c5b0 : decide ((rd l0 x8_1) < (-1)) = true := decide_eq_true c5
            clear c5
            obtain rfl := Option.some.inj H
            obtain ⟨ad127, e127, hx127_0, p127, q127⟩ := ai_ HR0.out x8_1
            cases e127
            go_wp2
            go_ret
            exact ⟨rf_, dr_⟩
          · rw [if_neg c5] at H
            have c5b0 : decide ((rd l0 x8_1) < (-1)) = false := decide_eq_false c5
            clear c5
            by_cases c6 : (rd l0 x8_1) > 1
            · rw [if_pos c6] at H
              have c6b0 : decide (1 < (rd l0 x8_1)) = true := decide_eq_true c6
              clear c6
              obtain rfl := Option.some.inj H
              obtain ⟨ad127, e127, hx127_0, p127, q127⟩ := ai_ HR0.out x8_1
              cases e127
              go_wp2
              go_ret
              exact ⟨rf_, dr_⟩
            · rw [if_neg c6] at H
              have c6b0 : decide (1 < (rd l0 x8_1)) = false := decide_eq_false c6
              clear c6
              by_cases c7 : (wrap64 (x3_1 + (rd l0 x8_1))) < 0
              · rw [if_pos c7] at H
                have c7b0 : decide ((wrap64 (x3_1 + (rd l0 x8_1))) < 0) = true := decide_eq_true c7
                clear c7
                obtain rfl := Option.some.inj H
                obtain ⟨ad127, e127, hx127_0, p127, q127⟩ := ai_ HR0.out x8_1
                cases e127
                go_wp2
                go_ret
                exact ⟨rf_, dr_⟩
              · rw [if_neg c7] at H
                have c7b0 : decide ((wrap64 (x3_1 + (rd l0 x8_1))) < 0) = false := decide_eq_false c7
                clear c7
                by_cases c8 : (wrap64 (x3_1 + (rd l0 x8_1))) > 1
                · rw [if_pos c8] at H
                  have c8b0 : decide (1 < (wrap64 (x3_1 + (rd l0 x8_1)))) = true := decide_eq_true c8
                  clear c8
                  obtain rfl := Option.some.inj H
                  obtain ⟨ad127, e127, hx127_0, p127, q127⟩ := ai_ HR0.out x8_1
                  cases e127
                  go_wp2
                  go_ret
                  exact ⟨rf_, dr_⟩
                · rw [if_neg c8] at H
                  have c8b0 : decide (1 < (wrap64 (x3_1 + (rd l0 x8_1)))) = false := decide_eq_false c8
                  clear c8
                  have H' := Aside0.mk H
                  clear H
                  obtain ⟨ad127, e127, hx127_0, p127, q127⟩ := ai_ HR0.out x8_1
                  cases e127
                  go_wp2
                  go_roundg k1
                  case measure => have := HK1.out; omega
                  case rel => exact ⟨(wrap64 (x3_1 + (rd l0 x8_1))), (wrap64 (x8_1 + 1)), rf_, rf_, H', ⟨by have := HK1.out; omega⟩, dr_⟩
        · rw [if_neg c4] at H
          exact absurd H (by simp)
      · rw [if_neg c3] at H
        exact absurd H (by simp)
    · rw [if_neg c2] at H
      have c2b0 : decide (x8_1 < (l0.length : Int)) = false := decide_eq_false c2
      clear c2
      obtain rfl := Option.some.inj H
      go_wp2
      go_ret
      exact ⟨rf_, dr_⟩

end Go.Proofs.Ytdinepghommchaa.V

-- Written by a program of this session over the kit's printer: wip/gp.py.
namespace Go.Proofs.Ytdinepghommchaa.V
open Go.RowKit Go.Proofs.YtdinepghommchaaW.PrintWords Go.Proofs.YtdinepghommchaaW.PrintLast Go.Proofs.YtdinepghommchaaW.PrintMore
attribute [local go_sem] max2_int min2_int max_two min_two max_three min_three max_four min_four   -- for this text's walks alone
set_option linter.unusedVariables false
set_option linter.unusedSimpArgs false

/-! ### slices_IndexFunc_int_int: function 79 -/
def slices_IndexFunc_int_int.l0 (g : List Int → Option Bool) : Nat → List (List Int) → Int → Int → Option (Int)
 | 0, _, _, _ => none
 | k + 1, x0, x7, x8 => if x8 < x7 then (if 0 ≤ x8 then (if x8 < (x0.length : Int) then ((g (rd_L1 x0 x8)).bind fun t102 => (if t102 = true then (some x8) else (slices_IndexFunc_int_int.l0 g k x0 x7 (wrap64 (x8 + 1))))) else (none)) else (none)) else (some (-1))
def slices_IndexFunc_int_int.f (g : List Int → Option Bool) (k : Nat) (l0 : List (List Int)) : Option (Int) := slices_IndexFunc_int_int.l0 g k l0 (l0.length : Int) 0
set_option maxHeartbeats 8000000 in
set_option maxRecDepth 100000 in
theorem slices_IndexFunc_int_int.calls (g : List Int → Option Bool) {fid : FuncId} {fn : Func} (hfn : Try.prog.funcs[fid]? = some fn) (hnm : (fn.name == "runtime.NumGoroutine") = false) (hbd : fn.body.isSome = true) (caps : Array Value) (k : Nat) (A0 : Option Addr) (c0 : Nat) (l0 : List (List Int)) (r : Int) (w : World) (hg_ : Aside0 (∀ (A : Option Addr) (c : Nat) (row : List Int) (x : Bool) (W : World), Drawn0 w W → Kd.C (Kd.int .i64) W A row.length row → row.length ≤ c → g row = some x → Calls Try.prog fid (#[.slice A row.length c] ++ caps) W fun e W' => e = .returned (.bool x) ∧ Drawn0 W W')) (hr0 : Kd.C (Kd.slice 3 (Kd.int .i64)) w A0 l0.length l0) (hc0 : l0.length ≤ c0) (h : slices_IndexFunc_int_int.f g k l0 = some r) :
 Calls Try.prog 79 #[.slice A0 l0.length c0, .func (.func fid) #[] caps] w fun e w' => e = .returned (.int .i64 r) ∧ Drawn0 w w' := by
 have HR0 := Aside0.mk hr0
 have HC0 := Aside0.mk hc0
 clear hr0 hc0
 have H : (slices_IndexFunc_int_int.l0 g k l0 (l0.length : Int) 0) = some r := h
 clear h
 have H' := Aside0.mk H
 clear H
 have hcf : ∀ (args : Array Value) (w : World), (callFunc fid args).run Try.prog w = .ok (.enter fid args) w := enters_ hfn hnm hbd
 go_enter Try.func79, Try.ntmps79
 go_wp2
 go_loopg [8] k (fun kq v8 w' => ∃ (x8_1 : Int), v8 = .int .i64 x8_1 ∧ Aside0 (slices_IndexFunc_int_int.l0 g kq l0 (l0.length : Int) x8_1 = some r) ∧ Aside0 (kq ≤ k) ∧ Drawn0 w w')
 case atStart => exact ⟨(0), rf_, H', ⟨Nat.le_refl _⟩, dr_⟩
 case round =>
  clear H'
  try clear p2
  obtain ⟨x8_1, rfl, HA, HK1, ⟨m1, rfl⟩⟩ := hrel
  cases gk with
  | zero => exact absurd HA.out (by simp [slices_IndexFunc_int_int.l0])
  | succ k1 =>
   have H := HA.out
   clear HA
   simp only [slices_IndexFunc_int_int.l0] at H
   by_cases c3 : x8_1 < (l0.length : Int)
   · rw [if_pos c3] at H
     have c3b0 : decide (x8_1 < (l0.length : Int)) = true := decide_eq_true c3
     clear c3
     by_cases c4 : 0 ≤ x8_1
     · rw [if_pos c4] at H
       have c4b0 : decide (0 ≤ x8_1) = true := decide_eq_true c4
       clear c4
       by_cases c5 : x8_1 < (l0.length : Int)
       · rw [if_pos c5] at H
         have c5b0 : decide (x8_1 < (l0.length : Int)) = true := decide_eq_true c5
         clear c5
         replace H := Option.bind_eq_some_iff.mp H
         obtain ⟨t102, A60, H⟩ := H
         replace H : (if t102 = true then (some x8_1) else (slices_IndexFunc_int_int.l0 g k1 l0 (l0.length : Int) (wrap64 (x8_1 + 1)))) = some r := H
         have A6 := Aside0.mk A60
         clear A60
         by_cases c7 : t102 = true
         · subst c7
           have H1 : (some x8_1) = some r := by rw [if_pos rfl] at H; exact H
           clear H
           have H := H1
           clear H1
           obtain rfl := Option.some.inj H
           obtain ⟨ad101, A101_0, c101_0, e101, hx101_0, HC101_0, HR101_0, p101, q101⟩ := al_ HR0.out x8_1
           cases e101
           go_wp2_with (first | ((with_reducible refine (hg_.out _ _ (rd_L1 l0 x8_1) true _ ?d1 ?side1 ?side2 A6.out).mono ?_); (case d1 => repeat (first | exact Drawn0.refl _ | apply Drawn0.step)); (case side1 => repeat (first | exact HR101_0.out | (with_reducible refine Kd.C_alloc ?_ _) | (with_reducible refine Kd.C_drewN ?_ _) | (with_reducible refine Kd.C_drew ?_))); (case side2 => exact HC101_0.out); rintro e w' ⟨rfl, ⟨nd, rfl⟩⟩))
           go_ret
           exact ⟨rf_, dr_⟩
         · replace c7 := Bool.eq_false_iff.mpr c7
           subst c7
           have H1 : (slices_IndexFunc_int_int.l0 g k1 l0 (l0.length : Int) (wrap64 (x8_1 + 1))) = some r := by rw [if_neg (show ¬ (false = true) by decide)] at H; exact H
           clear H
           have H := H1
           clear H1
           have H' := Aside0.mk H
           clear H
           obtain ⟨ad101, A101_0, c101_0, e101, hx101_0, HC101_0, HR101_0, p101, q101⟩ := al_ HR0.out x8_1
           cases e101
           go_wp2_with (first | ((with_reducible refine (hg_.out _ _ (rd_L1 l0 x8_1) false _ ?d1 ?side1 ?side2 A6.out).mono ?_); (case d1 => repeat (first | exact Drawn0.refl _ | apply Drawn0.step)); (case side1 => repeat (first | exact HR101_0.out | (with_reducible refine Kd.C_alloc ?_ _) | (with_reducible refine Kd.C_drewN ?_ _) | (with_reducible refine Kd.C_drew ?_))); (case side2 => exact HC101_0.out); rintro e w' ⟨rfl, ⟨nd, rfl⟩⟩))
           go_roundg k1
           case measure => have := HK1.out; omega
           case rel => exact ⟨(wrap64 (x8_1 + 1)), rf_, H', ⟨by have := HK1.out; omega⟩, dr_⟩
       · rw [if_neg c5] at H
         exact absurd H (by simp)
     · rw [if_neg c4] at H
       exact absurd H (by simp)
   · rw [if_neg c3] at H
     have c3b0 : decide (x8_1 < (l0.length : Int)) = false := decide_eq_false c3
     clear c3
     obtain rfl := Option.some.inj H
     go_wp2
     go_ret
     exact ⟨rf_, dr_⟩

end Go.Proofs.Ytdinepghommchaa.V

-- Written by a program of this session over the kit's printer: wip/gp.py.
namespace Go.Proofs.Ytdinepghommchaa.V
open Go.RowKit Go.Proofs.YtdinepghommchaaW.PrintWords Go.Proofs.YtdinepghommchaaW.PrintLast Go.Proofs.YtdinepghommchaaW.PrintMore
attribute [local go_sem] max2_int min2_int max_two min_two max_three min_three max_four min_four   -- for this text's walks alone
set_option linter.unusedVariables false
set_option linter.unusedSimpArgs false

/-! ### slices_ContainsFunc_int_int: function 68 -/
def slices_ContainsFunc_int_int.f (g : List Int → Option Bool) (k : Nat) (l0 : List (List Int)) : Option (Bool) := (slices_IndexFunc_int_int.f g k l0).bind fun t103 => (some (decide (t103 ≥ 0)))
set_option maxHeartbeats 8000000 in
set_option maxRecDepth 100000 in
theorem slices_ContainsFunc_int_int.calls (g : List Int → Option Bool) {fid : FuncId} {fn : Func} (hfn : Try.prog.funcs[fid]? = some fn) (hnm : (fn.name == "runtime.NumGoroutine") = false) (hbd : fn.body.isSome = true) (caps : Array Value) (k : Nat) (A0 : Option Addr) (c0 : Nat) (l0 : List (List Int)) (r : Bool) (w : World) (hg_ : Aside0 (∀ (A : Option Addr) (c : Nat) (row : List Int) (x : Bool) (W : World), Drawn0 w W → Kd.C (Kd.int .i64) W A row.length row → row.length ≤ c → g row = some x → Calls Try.prog fid (#[.slice A row.length c] ++ caps) W fun e W' => e = .returned (.bool x) ∧ Drawn0 W W')) (hr0 : Kd.C (Kd.slice 3 (Kd.int .i64)) w A0 l0.length l0) (hc0 : l0.length ≤ c0) (h : slices_ContainsFunc_int_int.f g k l0 = some r) :
 Calls Try.prog 68 #[.slice A0 l0.length c0, .func (.func fid) #[] caps] w fun e w' => e = .returned (.bool r) ∧ Drawn0 w w' := by
 have HR0 := Aside0.mk hr0
 have HC0 := Aside0.mk hc0
 clear hr0 hc0
 have H : ((slices_IndexFunc_int_int.f g k l0).bind fun t103 => (some (decide (t103 ≥ 0)))) = some r := h
 clear h
 replace H := Option.bind_eq_some_iff.mp H
 obtain ⟨t103, A30, H⟩ := H
 replace H : (some (decide (t103 ≥ 0))) = some r := H
 have A3 := Aside0.mk A30
 clear A30
 obtain rfl := Option.some.inj H
 go_enter Try.func68, Try.ntmps68
 go_wp2_with (first | ((with_reducible refine gate_callee (f := 79) rfl ?_); refine goesL_ (some 7) rfl rfl Try.func79 (by kernel_rfl) rfl #[.slice A0 l0.length c0, .func (.func fid) #[] caps] rfl ar_ ?_; (with_reducible refine (slices_IndexFunc_int_int.calls g hfn hnm hbd caps k _ _ l0 t103 _ ⟨fun A c row x W hd => hg_.out A c row x W hd⟩ ?side1 ?side2 A3.out).mono ?_); (case side1 => repeat (first | exact HR0.out | (with_reducible refine Kd.C_alloc ?_ _) | (with_reducible refine Kd.C_drewN ?_ _) | (with_reducible refine Kd.C_drew ?_))); (case side2 => exact HC0.out); rintro e w' ⟨rfl, ⟨nd, rfl⟩⟩; refine ⟨_, rfl, ?_⟩))
 go_ret
 exact ⟨rf_, dr_⟩

end Go.Proofs.Ytdinepghommchaa.V

/- The walk of read's closure: a row has another length, or does not alternate. -/
namespace Go.Proofs.Ytdinepghommchaa.V
open Go.RowKit Go.Proofs.YtdinepghommchaaW.PrintWords Go.Proofs.YtdinepghommchaaW.PrintLast Go.Proofs.YtdinepghommchaaW.PrintMore
set_option linter.unusedVariables false
set_option linter.unusedSimpArgs false

def veils_read1.f (L : List (List Int)) (row : List Int) : Option Bool := if row.length = L.length then (veils_alternates.f 1000 row).bind fun b => some (!b) else some true

set_option maxHeartbeats 400000 in
set_option maxRecDepth 100000 in
theorem veils_read1.calls (L : List (List Int)) (AL : Option Addr) (cL bx : Nat) (A : Option Addr) (c : Nat) (row : List Int) (x : Bool) (w : World) (hb : Aside0 (w.heap[bx]? = some (.cells #[.slice AL L.length cL] 27 (0, 0))))
 (hr : Aside0 (Kd.C (Kd.int .i64) w A row.length row)) (hc : Aside0 (row.length ≤ c)) (h : veils_read1.f L row = some x) :
 Calls Try.prog 69 #[.slice A row.length c, .pointer (some ⟨bx, 0, none⟩)] w fun e w' => e = .returned (.bool x) ∧ Drawn0 w w' := by
 have hcell : w.cell? ⟨bx, 0, none⟩ = some (.slice AL L.length cL) := (blk_cell hb.out 0).trans rfl
 unfold veils_read1.f at h
 by_cases e : row.length = L.length
 · rw [if_pos e] at h
   obtain ⟨b, hb1, h⟩ := Option.bind_eq_some_iff.mp h
   have S1 := Aside0.mk hb1
   obtain rfl := Option.some.inj h
   have e1 : ((row.length : Int) != (L.length : Int)) = false := by simp [e]
   have e2 : ((row.length : Int) == (L.length : Int)) = true := by simp [e]
   have E := Aside0.mk e
   clear h hb1 e
   go_enter Try.func69, Try.ntmps69
   go_wp2_with (go_at_call 70; (with_reducible refine (veils_alternates.calls 1000 A c row b _ hr.out hc.out S1.out).mono ?_); rintro e w' ⟨rfl, ⟨nd, rfl⟩⟩)
   all_goals go_ret
   all_goals exact ⟨by simp_all, dr_⟩
 · rw [if_neg e] at h
   obtain rfl := Option.some.inj h
   have e1 : ((row.length : Int) != (L.length : Int)) = true := by simp; omega
   have e2 : ((row.length : Int) == (L.length : Int)) = false := by simp; omega
   clear h e
   go_enter Try.func69, Try.ntmps69
   go_wp2
   all_goals go_ret
   all_goals exact ⟨by simp_all, dr_⟩
end Go.Proofs.Ytdinepghommchaa.V

-- Written by a program of this session over the kit's printer: wip/gp.py.
namespace Go.Proofs.Ytdinepghommchaa.V
open Go.RowKit Go.Proofs.YtdinepghommchaaW.PrintWords Go.Proofs.YtdinepghommchaaW.PrintLast Go.Proofs.YtdinepghommchaaW.PrintMore
attribute [local go_sem] max2_int min2_int max_two min_two max_three min_three max_four min_four   -- for this text's walks alone
set_option linter.unusedVariables false
set_option linter.unusedSimpArgs false

/-! ### veils_read: function 51 -/
mutual
def veils_read.j0 : Nat → List (List Int) → Bool → Option ((List (List Int)) × Bool)
 | 0, _, _ => none
 | k + 1, x1, x20 => if x20 = true then (some (([] : List (List Int)), false)) else (veils_read.l0 k x1 (x1.length : Int) 0)
def veils_read.l0 : Nat → List (List Int) → Int → Int → Option ((List (List Int)) × Bool)
 | 0, _, _, _ => none
 | k + 1, x1, x22, x23 => if x23 < x22 then (veils_read.l1 k x1 x23 ([] : List Int) x22 x23 x1 (x1.length : Int) 0) else (some (x1, true))
def veils_read.l1 : Nat → List (List Int) → Int → List Int → Int → Int → List (List Int) → Int → Int → Option ((List (List Int)) × Bool)
 | 0, _, _, _, _, _, _, _, _ => none
 | k + 1, x1, x4, x5, x22, x23, x26, x27, x28 => if x28 < x27 then (if 0 ≤ x28 then (if x28 < (x26.length : Int) then (if 0 ≤ x4 then (if x4 < ((rd_L1 x26 x28).length : Int) then (if x5.length < 17592186044416 then (veils_read.l1 k x1 x4 (x5 ++ [rd (rd_L1 x26 x28) x4]) x22 x23 x26 x27 (wrap64 (x28 + 1))) else (none)) else (none)) else (none)) else (none)) else (none)) else ((veils_alternates.f k x5).bind fun t107 => (if t107 = true then (veils_read.l0 k x1 x22 (wrap64 (x23 + 1))) else (some (([] : List (List Int)), false))))
end
def veils_read.f (k : Nat) (l0 : List (List Int)) : Option ((List (List Int)) × Bool) := if (l0.length : Int) < 1 then (veils_read.j0 k l0 true) else (if (l0.length : Int) > 5 then (veils_read.j0 k l0 true) else ((slices_ContainsFunc_int_int.f (veils_read1.f l0) 1000 l0).bind fun t101 => (veils_read.j0 k l0 t101)))
theorem veils_read.mono_l : ∀ k, (∀ y0 y1, LeO (veils_read.j0 k y0 y1) (veils_read.j0 (k + 1) y0 y1)) ∧ (∀ y0 y1 y2, LeO (veils_read.l0 k y0 y1 y2) (veils_read.l0 (k + 1) y0 y1 y2)) ∧ (∀ y0 y1 y2 y3 y4 y5 y6 y7, LeO (veils_read.l1 k y0 y1 y2 y3 y4 y5 y6 y7) (veils_read.l1 (k + 1) y0 y1 y2 y3 y4 y5 y6 y7))
 | 0 => ⟨fun _ _ r h => by simp [veils_read.j0] at h, fun _ _ _ r h => by simp [veils_read.l0] at h, fun _ _ _ _ _ _ _ _ r h => by simp [veils_read.l1] at h⟩
 | k + 1 => by
  obtain ⟨ih0, ih1, ih2⟩ := veils_read.mono_l k
  refine ⟨?_, ?_, ?_⟩
  · intro y0 y1
    unfold veils_read.j0
    repeat' first
    | (with_reducible exact ih0 _ _)
    | (with_reducible exact ih1 _ _ _)
    | (with_reducible exact ih2 _ _ _ _ _ _ _ _)
    | (with_reducible exact veils_alternates.mono _ _)
    | (with_reducible exact LeO.refl _)
    | (with_reducible exact LeO.none _)
    | (with_reducible refine LeO.ite ?_ ?_)
    | (with_reducible refine LeO.bind ?_ (fun _ => ?_))
    | exact ih0 _ _
    | exact ih1 _ _ _
    | exact ih2 _ _ _ _ _ _ _ _
    | exact veils_alternates.mono _ _
    | exact LeO.none _
    | refine LeO.ite ?_ ?_
    | refine LeO.bind ?_ (fun _ => ?_)
  · intro y0 y1 y2
    unfold veils_read.l0
    repeat' first
    | (with_reducible exact ih0 _ _)
    | (with_reducible exact ih1 _ _ _)
    | (with_reducible exact ih2 _ _ _ _ _ _ _ _)
    | (with_reducible exact veils_alternates.mono _ _)
    | (with_reducible exact LeO.refl _)
    | (with_reducible exact LeO.none _)
    | (with_reducible refine LeO.ite ?_ ?_)
    | (with_reducible refine LeO.bind ?_ (fun _ => ?_))
    | exact ih0 _ _
    | exact ih1 _ _ _
    | exact ih2 _ _ _ _ _ _ _ _
    | exact veils_alternates.mono _ _
    | exact LeO.none _
    | refine LeO.ite ?_ ?_
    | refine LeO.bind ?_ (fun _ => ?_)
  · intro y0 y1 y2 y3 y4 y5 y6 y7
    unfold veils_read.l1
    repeat' first
    | (with_reducible exact ih0 _ _)
    | (with_reducible exact ih1 _ _ _)
    | (with_reducible exact ih2 _ _ _ _ _ _ _ _)
    | (with_reducible exact veils_alternates.mono _ _)
    | (with_reducible exact LeO.refl _)
    | (with_reducible exact LeO.none _)
    | (with_reducible refine LeO.ite ?_ ?_)
    | (with_reducible refine LeO.bind ?_ (fun _ => ?_))
    | exact ih0 _ _
    | exact ih1 _ _ _
    | exact ih2 _ _ _ _ _ _ _ _
    | exact veils_alternates.mono _ _
    | exact LeO.none _
    | refine LeO.ite ?_ ?_
    | refine LeO.bind ?_ (fun _ => ?_)
theorem veils_read.mono : ∀ a0 k, LeO (veils_read.f k a0) (veils_read.f (k + 1) a0) := by
 intro a0 k
 obtain ⟨ih0, ih1, ih2⟩ := veils_read.mono_l k
 unfold veils_read.f
 repeat' first
  | (with_reducible exact ih0 _ _)
  | (with_reducible exact ih1 _ _ _)
  | (with_reducible exact ih2 _ _ _ _ _ _ _ _)
  | (with_reducible exact veils_alternates.mono _ _)
  | (with_reducible exact LeO.refl _)
  | (with_reducible exact LeO.none _)
  | (with_reducible refine LeO.ite ?_ ?_)
  | (with_reducible refine LeO.bind ?_ (fun _ => ?_))
  | exact ih0 _ _
  | exact ih1 _ _ _
  | exact ih2 _ _ _ _ _ _ _ _
  | exact veils_alternates.mono _ _
  | exact LeO.none _
  | refine LeO.ite ?_ ?_
  | refine LeO.bind ?_ (fun _ => ?_)
set_option maxHeartbeats 8000000 in
set_option maxRecDepth 100000 in
theorem veils_read.calls (k : Nat) (P0_ : Nat → Prop) (A0 : Option Addr) (c0 : Nat) (l0 : List (List Int)) (r1 : List (List Int)) (r2 : Bool) (w : World) (hs0 : Kd.V (Kd.slice 3 (Kd.int .i64)) 28 w w.heap.size (fun k_ => P0_ k_) (.slice A0 l0.length c0) l0) (h : veils_read.f k l0 = some (r1, r2)) :
 Calls Try.prog 51 #[.slice A0 l0.length c0] w fun e w' => ∃ v0_ : Value, e = .returned (.tuple #[v0_, .bool r2]) ∧ Kd.V (Kd.slice 3 (Kd.int .i64)) 28 w' w.heap.size (fun k_ => (P0_ k_ ∨ w.heap.size ≤ k_)) v0_ r1 ∧ Below w.heap.size w w' := by
 have HO0 := Aside0.mk (show Kd.V (Kd.slice 3 (Kd.int .i64)) 28 w w.heap.size (fun k_ => (P0_ k_ ∨ w.heap.size ≤ k_)) (.slice A0 l0.length c0) l0 from Kd.V_mono hs0 (fun k_ hk => .inl hk))
 have HB := Aside0.mk (Below.refl w.heap.size w)
 have H : (if (l0.length : Int) < 1 then (veils_read.j0 k l0 true) else (if (l0.length : Int) > 5 then (veils_read.j0 k l0 true) else ((slices_ContainsFunc_int_int.f (veils_read1.f l0) 1000 l0).bind fun t101 => (veils_read.j0 k l0 t101)))) = some (r1, r2) := h
 clear h
 have HC2 := Aside0.mk H
 clear H
 have hmf : ∀ (fn : Fn) (first cap : Array Value) (w : World), (Instr.makeFunc fn first cap).run Try.prog w = .ok (.func fn first cap) w := fun _ _ _ _ => rfl
 have HX : Aside0 ((w.alloc (.cells #[.slice A0 l0.length c0] 27)).heap[w.heap.size]? = some (.cells #[.slice A0 l0.length c0] 27 (0, 0))) := ⟨blk_new _ _⟩
 have hcell : (w.alloc (.cells #[.slice A0 l0.length c0] 27)).cell? ⟨w.heap.size, 0, none⟩ = some (.slice A0 l0.length c0) := by
  rw [World.cell?_alloc_at _ _ _ _ rfl]; rfl
 go_enter Try.func51, Try.ntmps51
 go_upto_region 1 with (fail)
 go_cut [20] (fun v20 wc => ∃ (kq : Nat) (x20_1 : Bool), v20 = .bool x20_1 ∧ Aside0 (veils_read.j0 kq l0 x20_1 = some (r1, r2)) ∧ Aside0 (kq ≤ k) ∧ Aside0 (Kd.V (Kd.slice 3 (Kd.int .i64)) 28 wc w.heap.size (fun k_ => (P0_ k_ ∨ w.heap.size ≤ k_)) (.slice A0 l0.length c0) l0) ∧ Aside0 (Below w.heap.size w wc) ∧ Aside0 (wc.heap[w.heap.size]? = some (.cells #[.slice A0 l0.length c0] 27 (0, 0))))
 case first =>
  have H := HC2.out
  clear HC2
  by_cases c3 : (l0.length : Int) < 1
  · rw [if_pos c3] at H
    have c3b0 : decide ((l0.length : Int) < 1) = true := decide_eq_true c3
    have c3b1 : decide (l0.length < 1) = true := decide_eq_true (by omega)
    clear c3
    (first | rw [c3b0] | (simp only [i64_w, i32_w]; rw [c3b0]) | skip)
    have H' := Aside0.mk H
    clear H
    go_wp2
    go_meet
    case rel => exact ⟨_, (true), rf_, H', ⟨by first | omega | exact Nat.le_refl _⟩, ⟨nV_ HO0.out⟩, ⟨bel_⟩, ⟨by (with_reducible repeat (first | exact HX.out | refine blk_drewN ?_ _ | refine blk_drew ?_ | refine blk_alloc ?_ _))⟩⟩
  · rw [if_neg c3] at H
    have c3b0 : decide ((l0.length : Int) < 1) = false := decide_eq_false c3
    have c3b1 : decide (l0.length < 1) = false := decide_eq_false (by omega)
    clear c3
    (first | rw [c3b0] | (simp only [i64_w, i32_w]; rw [c3b0]) | skip)
    by_cases c4 : (l0.length : Int) > 5
    · rw [if_pos c4] at H
      have c4b0 : decide (5 < (l0.length : Int)) = true := decide_eq_true c4
      have c4b1 : decide (5 < l0.length) = true := decide_eq_true (by omega)
      clear c4
      have H' := Aside0.mk H
      clear H
      go_wp2
      go_meet
      case rel => exact ⟨_, (true), rf_, H', ⟨by first | omega | exact Nat.le_refl _⟩, ⟨nV_ HO0.out⟩, ⟨bel_⟩, ⟨by (with_reducible repeat (first | exact HX.out | refine blk_drewN ?_ _ | refine blk_drew ?_ | refine blk_alloc ?_ _))⟩⟩
    · rw [if_neg c4] at H
      have c4b0 : decide (5 < (l0.length : Int)) = false := decide_eq_false c4
      have c4b1 : decide (5 < l0.length) = false := decide_eq_false (by omega)
      clear c4
      replace H := Option.bind_eq_some_iff.mp H
      obtain ⟨t101, A50, H⟩ := H
      replace H : (veils_read.j0 k l0 t101) = some (r1, r2) := H
      have A5 := Aside0.mk A50
      clear A50
      have H' := Aside0.mk H
      clear H
      go_wp2_with (first | (go_at_call 68; (refine (slices_ContainsFunc_int_int.calls (veils_read1.f l0) Try.func69 (by kernel_rfl) rfl #[.pointer (some ⟨w.heap.size, 0, none⟩)] 1000 _ _ l0 t101 _ ?hg ?side1 ?side2 A5.out).mono ?_); (case hg => exact ⟨fun A c row x W hd hr hc hx => by obtain ⟨n, rfl⟩ := hd.out; exact veils_read1.calls l0 A0 c0 w.heap.size A c row x _ ⟨blk_drewN HX.out n⟩ ⟨hr⟩ ⟨hc⟩ hx⟩); (case side1 => repeat (first | exact (Kd.V_reads' HO0.out).2.2 | (with_reducible refine Kd.C_alloc ?_ _) | (with_reducible refine Kd.C_drewN ?_ _) | (with_reducible refine Kd.C_drew ?_))); (case side2 => exact (Kd.V_reads' HO0.out).2.1); rintro e w' ⟨rfl, ⟨nd, rfl⟩⟩))
      go_meet
      case rel => exact ⟨_, (t101), rf_, H', ⟨by first | omega | exact Nat.le_refl _⟩, ⟨nV_ HO0.out⟩, ⟨bel_⟩, ⟨by (with_reducible repeat (first | exact HX.out | refine blk_drewN ?_ _ | refine blk_drew ?_ | refine blk_alloc ?_ _))⟩⟩
 case rest =>
  clear HC2
  try clear p2
  try clear c3
  try clear c3b0
  try clear c3b1
  try clear c4
  try clear c4b0
  try clear c4b1
  try clear c5
  obtain ⟨kq, x20_1, rfl, HA, HJ1, HO_1, HB, HX⟩ := hcut
  clear hcell
  have hcell := (blk_cell HX.out 0).trans (rfl : _ = some (Value.slice A0 l0.length c0))
  cases kq with
  | zero => exact absurd HA.out (by simp [veils_read.j0])
  | succ kj1 =>
   have H := HA.out
   clear HA
   simp only [veils_read.j0] at H
   by_cases c6 : x20_1 = true
   · subst c6
     have H1 : (some (([] : List (List Int)), false)) = some (r1, r2) := by rw [if_pos rfl] at H; exact H
     clear H
     have H := H1
     clear H1
     simp only [Option.some.injEq, Prod.mk.injEq] at H
     obtain ⟨rfl, rfl⟩ := H
     go_wp2
     go_ret2
     exact ⟨.slice none 0 0, er_, Kd.V_mono (Kd.S_V (by first | exact Kd.S_nil (Kd.slice 3 (Kd.int .i64)) 28 _ w.heap.size (fun k_ => w.heap.size ≤ k_) | exact Kd.N_nil _ _ _ _ _ | exact Kd.V_nil _ _ _ _ _ | exact Kd.Q_nil _ _ _ _ _ | exact Kd.R_nil _ _ _ _ _)) (fun k_ hk => by first | exact ⟨(.inr (hk.1)), hk.2⟩ | exact (.inr (hk))), bel_⟩
   · replace c6 := Bool.eq_false_iff.mpr c6
     subst c6
     have H1 : (veils_read.l0 kj1 l0 (l0.length : Int) 0) = some (r1, r2) := by rw [if_neg (show ¬ (false = true) by decide)] at H; exact H
     clear H
     have H := H1
     clear H1
     have H' := Aside0.mk H
     clear H
     go_wp2
     go_loopg [23] kj1 (fun kq v23 w' => ∃ (x23_2 : Int), v23 = .int .i64 x23_2 ∧ Aside0 (veils_read.l0 kq l0 (l0.length : Int) x23_2 = some (r1, r2)) ∧ Aside0 (kq ≤ kj1) ∧ Aside0 (Kd.V (Kd.slice 3 (Kd.int .i64)) 28 w' w.heap.size (fun k_ => (P0_ k_ ∨ w.heap.size ≤ k_)) (.slice A0 l0.length c0) l0) ∧ Aside0 (Below w.heap.size w w') ∧ Aside0 (w'.heap[w.heap.size]? = some (.cells #[.slice A0 l0.length c0] 27 (0, 0))))
     case atStart => exact ⟨(0), rf_, H', ⟨Nat.le_refl _⟩, ⟨nV_ HO_1.out⟩, ⟨bel_⟩, ⟨by (with_reducible repeat (first | exact HX.out | refine blk_drewN ?_ _ | refine blk_drew ?_ | refine blk_alloc ?_ _))⟩⟩
     case round =>
      clear H'
      try clear p2
      try clear c3
      try clear c3b0
      try clear c3b1
      try clear c4
      try clear c4b0
      try clear c4b1
      try clear c5
      try clear c6
      try clear p2
      obtain ⟨x23_2, rfl, HA, HK2, HO_1, HB, HX⟩ := hrel
      clear hcell
      have hcell := (blk_cell HX.out 0).trans (rfl : _ = some (Value.slice A0 l0.length c0))
      cases gk with
      | zero => exact absurd HA.out (by simp [veils_read.l0])
      | succ k2 =>
       have H := HA.out
       clear HA
       simp only [veils_read.l0] at H
       by_cases c7 : x23_2 < (l0.length : Int)
       · rw [if_pos c7] at H
         have c7b0 : decide (x23_2 < (l0.length : Int)) = true := decide_eq_true c7
         clear c7
         have H' := Aside0.mk H
         clear H
         go_wp2
         go_loopg [5, 28] k2 (fun kq v5 v28 w' => ∃ (x5_3 : List Int) (x28_3 : Int), v28 = .int .i64 x28_3 ∧ Aside0 (veils_read.l1 kq l0 x23_2 x5_3 (l0.length : Int) x23_2 l0 (l0.length : Int) x28_3 = some (r1, r2)) ∧ Aside0 (kq ≤ k2) ∧ Aside0 (Kd.V (Kd.slice 3 (Kd.int .i64)) 28 w' w.heap.size (fun k_ => (P0_ k_ ∨ w.heap.size ≤ k_) ∧ some k_ ≠ (v5 : Value).ownBlock) (.slice A0 l0.length c0) l0) ∧ Aside0 (Kd.R (Kd.int .i64) 3 w' w.heap.size (fun k_ => (w.heap.size ≤ k_)) v5 x5_3) ∧ Aside0 (Kd.V (Kd.slice 3 (Kd.int .i64)) 28 w' w.heap.size (fun k_ => (P0_ k_ ∨ w.heap.size ≤ k_) ∧ some k_ ≠ (v5 : Value).ownBlock) (.slice A0 l0.length c0) l0) ∧ Aside0 (Below w.heap.size w w') ∧ Aside0 (w'.heap[w.heap.size]? = some (.cells #[.slice A0 l0.length c0] 27 (0, 0))))
         case atStart => exact ⟨(([] : List Int)), (0), rf_, H', ⟨Nat.le_refl _⟩, ⟨by (with_reducible repeat (first | apply Kd.V_alloc | apply Kd.V_drewN | apply Kd.V_drew)); exact Kd.V_mono HO_1.out (fun _ hk => ⟨hk, (by simp [Value.ownBlock])⟩)⟩, ⟨by first | exact Kd.R_nil _ _ _ _ _ | exact Kd.N_nil _ _ _ _ _ | exact Kd.V_nil _ _ _ _ _ | exact Kd.Q_nil _ _ _ _ _ | exact Kd.S_nil _ _ _ _ _⟩, ⟨by (with_reducible repeat (first | apply Kd.V_alloc | apply Kd.V_drewN | apply Kd.V_drew)); exact Kd.V_mono HO_1.out (fun _ hk => ⟨hk, (by simp [Value.ownBlock])⟩)⟩, ⟨bel_⟩, ⟨by (with_reducible repeat (first | exact HX.out | refine blk_drewN ?_ _ | refine blk_drew ?_ | refine blk_alloc ?_ _))⟩⟩
         case round =>
          clear H'
          try clear p2
          try clear c3
          try clear c3b0
          try clear c3b1
          try clear c4
          try clear c4b0
          try clear c4b1
          try clear c5
          try clear c6
          try clear c7
          try clear c7b0
          try clear p2
          obtain ⟨x5_3, x28_3, rfl, HA, HK3, HO_1, HO_5, HO_26, HB, HX⟩ := hrel
          clear hcell
          have hcell := (blk_cell HX.out 0).trans (rfl : _ = some (Value.slice A0 l0.length c0))
          cases gk with
          | zero => exact absurd HA.out (by simp [veils_read.l1])
          | succ k3 =>
           have H := HA.out
           clear HA
           simp only [veils_read.l1] at H
           by_cases c8 : x28_3 < (l0.length : Int)
           · rw [if_pos c8] at H
             have c8b0 : decide (x28_3 < (l0.length : Int)) = true := decide_eq_true c8
             clear c8
             by_cases c9 : 0 ≤ x28_3
             · rw [if_pos c9] at H
               have c9b0 : decide (0 ≤ x28_3) = true := decide_eq_true c9
               clear c9
               by_cases c10 : x28_3 < (l0.length : Int)
               · rw [if_pos c10] at H
                 have c10b0 : decide (x28_3 < (l0.length : Int)) = true := decide_eq_true c10
                 clear c10
                 by_cases c11 : 0 ≤ x23_2
                 · rw [if_pos c11] at H
                   have c11b0 : decide (0 ≤ x23_2) = true := decide_eq_true c11
                   clear c11
                   by_cases c12 : x23_2 < ((rd_L1 l0 x28_3).length : Int)
                   · rw [if_pos c12] at H
                     have c12b0 : decide (x23_2 < ((rd_L1 l0 x28_3).length : Int)) = true := decide_eq_true c12
                     clear c12
                     by_cases c13 : x5_3.length < 17592186044416
                     · rw [if_pos c13] at H
                       have LMc13 := Aside0.mk c13
                       clear c13
                       obtain ⟨y104, hy104⟩ : ∃ y_ : List Int, y_ = (x5_3 ++ [rd (rd_L1 l0 x28_3) x23_2]) := ⟨_, rfl⟩
                       replace H : (veils_read.l1 k3 l0 x23_2 y104 (l0.length : Int) x23_2 l0 (l0.length : Int) (wrap64 (x28_3 + 1))) = some (r1, r2) := by first | (rw [hy104]; with_reducible exact H) | (have H2_ := (Option.bind_some _ _).symm.trans H; rw [hy104]; with_reducible exact H2_) | (have H2_ := (Option.bind_some _ _).symm.trans H; with_reducible exact H2_) | with_reducible exact H | (rw [hy104]; exact H) | exact H
                       have Ny104 := Aside0.mk hy104
                       clear hy104
                       have H' := Aside0.mk H
                       clear H
                       have p102 : 0 ≤ (x28_3 : Int) := od_
                       have q102 : x28_3 < (l0.length : Int) := od_
                       obtain ⟨ad102, A102_0, c102_0, e102, hx102_0, hl102_0, hi102_0⟩ := at_L1 (Kd.V_reads' HO_26.out).2.2 x28_3 p102 q102
                       cases e102
                       obtain ⟨ce102, hce102, hMe102, hcc102⟩ := Kd.V_get HO_26.out [] x28_3 p102 (by first | exact q102 | exact od_ | (have e_ := (Kd.V_reads' HO_26.out).1; omega))
                       obtain ⟨ua102_0, uc102_0, rfl, ul102_0, ge102_0⟩ := Kd.FK_slice_open hMe102
                       have hv102_0 := hcc102 0 _ rfl
                       rw [Nat.add_zero, show ((Kd.slice 3 (Kd.int .i64))).sz = 1 from rfl, Nat.mul_one] at hv102_0
                       replace hv102_0 := Option.some.inj (hv102_0.symm.trans hx102_0)
                       injection hv102_0 with hva_ hvn_ hvc_
                       rw [hva_] at ge102_0
                       rw [hvc_] at ul102_0
                       have HL102_0 := Aside0.mk (show Kd.V (Kd.int .i64) 3 _ w.heap.size _ _ (rd_L1 l0 x28_3) from Kd.V_mk ul102_0 ge102_0)
                       clear hva_ hvn_ hvc_ ge102_0 ul102_0
                       clear hcc102 hce102
                       have HR102_0 := Aside0.mk hi102_0
                       have HC102_0 := Aside0.mk hl102_0
                       clear hi102_0 hl102_0
                       replace p102 := eq_true p102
                       replace q102 := eq_true q102
                       obtain ⟨ad103, e103, hx103_0, p103, q103⟩ := ai_ (by repeat (first | (with_reducible exact HR102_0.out) | (with_reducible refine Kd.C_alloc ?_ _) | (with_reducible refine Kd.C_drewN ?_ _) | (with_reducible refine Kd.C_drew ?_) | exact HR102_0.out)) x23_2
                       cases e103
                       go_wp2_with (first | ((with_reducible refine gate_builtin (b := .append) (xs := #[.tmp 32, .tmp 37]) rfl ?_); (try (refine gate_guard (by rfl) ?_; dsimp only)); at_builtin; refine Kd.R_append (Kd.int .i64) (w0 := w) w.heap.size rfl (.tmp 32) (.tmp 37) 28 3 (.int .i64 0) 8 rfl Try.underlying28 info3 rfl (by decide) (by omega) u5 x5_3 (rd (rd_L1 l0 x28_3) x23_2) [.int .i64 (rd (rd_L1 l0 x28_3) x23_2)] (fun k_ => (w.heap.size ≤ k_)) (fun _ => False) rfl rfl ?aP (fun _ hk => hk.elim) ?aF ?aO ?aB ?aS ?aL ?_; (case aP => exact rfl); (case aB => exact (bel_)); (case aF => exact (fun k_ hk => (Nat.le_trans (below_size (bel_)) hk))); (case aO => exact (nR_ HO_5.out)); (case aS => exact (below_size (bel_))); (case aL => have := LMc13.out; omega); intro v105 w14 ho hb hg hat; rw [← Ny104.out] at ho; have nX_ := Aside0.mk (blk_grown (show _ from HX.out) hg (Kd.R_ne HO_5.out HX.out (by decide))); clear hcell; clear HX; have HX := nX_; clear nX_; have n0_ := Aside0.mk (Kd.V_afterv (ok := (fun k_ => (P0_ k_ ∨ w.heap.size ≤ k_))) (nV_ HO_1.out) hg hat); have n1_ := Aside0.mk (Kd.V_afterv (ok := (fun k_ => (P0_ k_ ∨ w.heap.size ≤ k_))) (nV_ HO_26.out) hg hat); have n2_ := Aside0.mk (Kd.V_afterv (ok := (fun k_ => (P0_ k_ ∨ w.heap.size ≤ k_))) (nV_ HL102_0.out) hg hat); have n3_ := Aside0.mk (hb); have n4_ := Aside0.mk (ho); clear HO_1; clear HO_26; clear HL102_0; clear HB; clear HO_5; have HO_1 := n0_; have HO_26 := n1_; have HL102_0 := n2_; have HB := n3_; have HO106 := n4_; clear n0_ n1_ n2_ n3_ n4_; clear ho hb hg hat))
                       go_roundg k3
                       case measure => have := HJ1.out; have := HK2.out; have := HK3.out; omega
                       case rel => exact ⟨(y104), (wrap64 (x28_3 + 1)), rf_, H', ⟨by have := HJ1.out; have := HK2.out; have := HK3.out; omega⟩, ⟨nV_ HO_1.out⟩, ⟨nR_ HO106.out⟩, ⟨nV_ HO_26.out⟩, ⟨bel_⟩, ⟨by (with_reducible repeat (first | exact HX.out | refine blk_drewN ?_ _ | refine blk_drew ?_ | refine blk_alloc ?_ _))⟩⟩
                     · rw [if_neg c13] at H
                       exact absurd H (by simp)
                   · rw [if_neg c12] at H
                     exact absurd H (by simp)
                 · rw [if_neg c11] at H
                   exact absurd H (by simp)
               · rw [if_neg c10] at H
                 exact absurd H (by simp)
             · rw [if_neg c9] at H
               exact absurd H (by simp)
           · rw [if_neg c8] at H
             have c8b0 : decide (x28_3 < (l0.length : Int)) = false := decide_eq_false c8
             clear c8
             replace H := Option.bind_eq_some_iff.mp H
             obtain ⟨t107, A150, H⟩ := H
             replace H : (if t107 = true then (veils_read.l0 k3 l0 (l0.length : Int) (wrap64 (x23_2 + 1))) else (some (([] : List (List Int)), false))) = some (r1, r2) := H
             have A15 := Aside0.mk A150
             clear A150
             by_cases c16 : t107 = true
             · subst c16
               have H1 : (veils_read.l0 k3 l0 (l0.length : Int) (wrap64 (x23_2 + 1))) = some (r1, r2) := by rw [if_pos rfl] at H; exact H
               clear H
               have H := H1
               clear H1
               have H' := Aside0.mk H
               clear H
               obtain ⟨Ao17, co17, eo17⟩ := Kd.R_slice HO_5.out
               subst eo17
               go_wp2_with (first | ((with_reducible refine gate_callee (f := 70) rfl ?_); refine goesL_ (some 41) rfl rfl Try.func70 (by kernel_rfl) rfl #[.slice Ao17 x5_3.length co17] rfl ar_ ?_; (with_reducible refine (veils_alternates.calls k3 _ _ x5_3 true _ ?side1 ?side2 A15.out).mono ?_); (case side1 => repeat (first | exact (Kd.R_reads' HO_5.out).2.2 | (with_reducible refine Kd.C_alloc ?_ _) | (with_reducible refine Kd.C_drewN ?_ _) | (with_reducible refine Kd.C_drew ?_))); (case side2 => exact (Kd.R_reads' HO_5.out).2.1); rintro e w' ⟨rfl, ⟨nd, rfl⟩⟩; refine ⟨_, rfl, ?_⟩))
               go_roundg k3
               case measure => have := HJ1.out; have := HK2.out; have := HK3.out; omega
               case rel => exact ⟨(wrap64 (x23_2 + 1)), rf_, H', ⟨by have := HJ1.out; have := HK2.out; have := HK3.out; omega⟩, ⟨by (with_reducible repeat (first | apply Kd.V_alloc | apply Kd.V_drewN | apply Kd.V_drew)); exact Kd.V_mono HO_1.out (fun _ hk => hk.1)⟩, ⟨bel_⟩, ⟨by (with_reducible repeat (first | exact HX.out | refine blk_drewN ?_ _ | refine blk_drew ?_ | refine blk_alloc ?_ _))⟩⟩
             · replace c16 := Bool.eq_false_iff.mpr c16
               subst c16
               have H1 : (some (([] : List (List Int)), false)) = some (r1, r2) := by rw [if_neg (show ¬ (false = true) by decide)] at H; exact H
               clear H
               have H := H1
               clear H1
               simp only [Option.some.injEq, Prod.mk.injEq] at H
               obtain ⟨rfl, rfl⟩ := H
               obtain ⟨Ao18, co18, eo18⟩ := Kd.R_slice HO_5.out
               subst eo18
               go_wp2_with (first | ((with_reducible refine gate_callee (f := 70) rfl ?_); refine goesL_ (some 41) rfl rfl Try.func70 (by kernel_rfl) rfl #[.slice Ao18 x5_3.length co18] rfl ar_ ?_; (with_reducible refine (veils_alternates.calls k3 _ _ x5_3 false _ ?side1 ?side2 A15.out).mono ?_); (case side1 => repeat (first | exact (Kd.R_reads' HO_5.out).2.2 | (with_reducible refine Kd.C_alloc ?_ _) | (with_reducible refine Kd.C_drewN ?_ _) | (with_reducible refine Kd.C_drew ?_))); (case side2 => exact (Kd.R_reads' HO_5.out).2.1); rintro e w' ⟨rfl, ⟨nd, rfl⟩⟩; refine ⟨_, rfl, ?_⟩))
               go_ret2
               exact ⟨.slice none 0 0, er_, Kd.V_mono (Kd.S_V (by first | exact Kd.S_nil (Kd.slice 3 (Kd.int .i64)) 28 _ w.heap.size (fun k_ => w.heap.size ≤ k_) | exact Kd.N_nil _ _ _ _ _ | exact Kd.V_nil _ _ _ _ _ | exact Kd.Q_nil _ _ _ _ _ | exact Kd.R_nil _ _ _ _ _)) (fun k_ hk => by first | exact ⟨(.inr (hk.1)), hk.2⟩ | exact (.inr (hk))), bel_⟩
       · rw [if_neg c7] at H
         have c7b0 : decide (x23_2 < (l0.length : Int)) = false := decide_eq_false c7
         clear c7
         simp only [Option.some.injEq, Prod.mk.injEq] at H
         obtain ⟨rfl, rfl⟩ := H
         go_wp2
         go_ret2
         exact ⟨_, er_, by (with_reducible repeat (first | apply Kd.V_alloc | apply Kd.V_drewN | apply Kd.V_drew)); exact HO_1.out, bel_⟩

end Go.Proofs.Ytdinepghommchaa.V

-- Written by a program of this session over the kit's printer: wip/gp.py.
namespace Go.Proofs.Ytdinepghommchaa.V
open Go.RowKit Go.Proofs.YtdinepghommchaaW.PrintWords Go.Proofs.YtdinepghommchaaW.PrintLast Go.Proofs.YtdinepghommchaaW.PrintMore
attribute [local go_sem] max2_int min2_int max_two min_two max_three min_three max_four min_four   -- for this text's walks alone
set_option linter.unusedVariables false
set_option linter.unusedSimpArgs false

/-! ### veils_Heights: function 28 -/
def veils_Heights.f (k : Nat) (l0 : List (List Int)) : Option ((List (List Int)) × Int) := (veils_read.f k l0).bind fun bt128 => (if bt128.2 = true then ((veils_raised.f bt128.1).bind fun t132 => (some (t132, 0))) else (some (([] : List (List Int)), 2)))
set_option maxHeartbeats 8000000 in
set_option maxRecDepth 100000 in
theorem veils_Heights.calls (k : Nat) (A0 : Option Addr) (c0 : Nat) (l0 : List (List Int)) (r1 : List (List Int)) (r2 : Int) (w : World) (hr0 : Kd.C (Kd.slice 3 (Kd.int .i64)) w A0 l0.length l0) (hc0 : l0.length ≤ c0) (h : veils_Heights.f k l0 = some (r1, r2)) :
 Calls Try.prog 28 #[.slice A0 l0.length c0] w fun e w' => ∃ v0_ : Value, e = .returned (.tuple #[v0_, .int .i64 r2]) ∧ Kd.S (Kd.slice 3 (Kd.int .i64)) 28 w' w.heap.size (fun _ => True) v0_ r1 ∧ Below w.heap.size w w' := by
 have HR0 := Aside0.mk hr0
 have HC0 := Aside0.mk hc0
 clear hr0 hc0
 have HB := Aside0.mk (Below.refl w.heap.size w)
 have H : ((veils_read.f k l0).bind fun bt128 => (if bt128.2 = true then ((veils_raised.f bt128.1).bind fun t132 => (some (t132, 0))) else (some (([] : List (List Int)), 2)))) = some (r1, r2) := h
 clear h
 replace H := Option.bind_eq_some_iff.mp H
 obtain ⟨⟨t128, t131⟩, A20, H⟩ := H
 replace H : (if t131 = true then ((veils_raised.f t128).bind fun t132 => (some (t132, 0))) else (some (([] : List (List Int)), 2))) = some (r1, r2) := H
 have A2 := Aside0.mk A20
 clear A20
 by_cases c3 : t131 = true
 · subst c3
   have H1 : ((veils_raised.f t128).bind fun t132 => (some (t132, 0))) = some (r1, r2) := by rw [if_pos rfl] at H; exact H
   clear H
   have H := H1
   clear H1
   replace H := Option.bind_eq_some_iff.mp H
   obtain ⟨t132, A40, H⟩ := H
   replace H : (some (t132, 0)) = some (r1, r2) := H
   have A4 := Aside0.mk A40
   clear A40
   simp only [Option.some.injEq, Prod.mk.injEq] at H
   obtain ⟨rfl, rfl⟩ := H
   go_enter Try.func28, Try.ntmps28
   go_wp2_with (first | ((with_reducible refine gate_callee (f := 51) rfl ?_); refine goesL_ (some 8) rfl rfl Try.func51 (by kernel_rfl) rfl #[.slice A0 l0.length c0] rfl ar_ ?_; (with_reducible refine (veils_read.calls k (fun k_ => k_ < w.heap.size) _ _ l0 t128 true _ ?side1 A2.out).mono ?_); (case side1 => exact Kd.V_mk HC0.out (Kd.F_below (Kd.C_F (Kd.heap_slice 3 (Kd.heap_int .i64)) HR0.out) (bel_))); rintro e w5 ⟨v129, rfl, ho0, hb⟩; refine ⟨_, rfl, ?_⟩; have n0_ := Aside0.mk (Kd.V_lower (Kd.V_mono (ok' := fun k_ => True) ho0 (fun k_ hk_ => trivial)) (below_size (bel_))); have n1_ := Aside0.mk (below_step (bel_) hb); clear HB; have HO130 := n0_; have HB := n1_; clear n0_ n1_; (try clear hb); (try clear hb2); (try clear hk); (try clear hi); (try clear ho0); obtain ⟨Ao6, co6, eo6⟩ := Kd.V_slice HO130.out; subst eo6) | ((with_reducible refine gate_callee (f := 49) rfl ?_); refine goesL_ (some 15) rfl rfl Try.func49 (by kernel_rfl) rfl #[.iface 49 (.slice Ao6 t128.length co6)] rfl ar_ ?_; (with_reducible refine (veils_raised.calls _ _ t128 t132 _ ?side1 ?side2 A4.out).mono ?_); (case side1 => repeat (first | exact (Kd.V_reads' HO130.out).2.2 | (with_reducible refine Kd.C_alloc ?_ _) | (with_reducible refine Kd.C_drewN ?_ _) | (with_reducible refine Kd.C_drew ?_))); (case side2 => exact (Kd.V_reads' HO130.out).2.1); rintro e w7 ⟨v133, rfl, ho0, hb⟩; refine ⟨_, rfl, ?_⟩; have n0_ := Aside0.mk (Kd.V_elder' (nV_ HO130.out) (Kd.S_base ho0) hb); have n1_ := Aside0.mk (Kd.S_lower ho0 (below_size (bel_))); have n2_ := Aside0.mk (below_step (bel_) hb); clear HO130; clear HB; have HO130 := n0_; have HO134 := n1_; have HB := n2_; clear n0_ n1_ n2_; (try clear hb); (try clear hb2); (try clear hk); (try clear hi); (try clear ho0)))
   go_ret2
   exact ⟨_, er_, by (with_reducible repeat (first | apply Kd.S_alloc | apply Kd.S_drewN | apply Kd.S_drew)); exact HO134.out, bel_⟩
 · replace c3 := Bool.eq_false_iff.mpr c3
   subst c3
   have H1 : (some (([] : List (List Int)), 2)) = some (r1, r2) := by rw [if_neg (show ¬ (false = true) by decide)] at H; exact H
   clear H
   have H := H1
   clear H1
   simp only [Option.some.injEq, Prod.mk.injEq] at H
   obtain ⟨rfl, rfl⟩ := H
   go_enter Try.func28, Try.ntmps28
   go_wp2_with (first | ((with_reducible refine gate_callee (f := 51) rfl ?_); refine goesL_ (some 8) rfl rfl Try.func51 (by kernel_rfl) rfl #[.slice A0 l0.length c0] rfl ar_ ?_; (with_reducible refine (veils_read.calls k (fun k_ => k_ < w.heap.size) _ _ l0 t128 false _ ?side1 A2.out).mono ?_); (case side1 => exact Kd.V_mk HC0.out (Kd.F_below (Kd.C_F (Kd.heap_slice 3 (Kd.heap_int .i64)) HR0.out) (bel_))); rintro e w8 ⟨v129, rfl, ho0, hb⟩; refine ⟨_, rfl, ?_⟩; have n0_ := Aside0.mk (Kd.V_lower (Kd.V_mono (ok' := fun k_ => True) ho0 (fun k_ hk_ => trivial)) (below_size (bel_))); have n1_ := Aside0.mk (below_step (bel_) hb); clear HB; have HO130 := n0_; have HB := n1_; clear n0_ n1_; (try clear hb); (try clear hb2); (try clear hk); (try clear hi); (try clear ho0)))
   go_ret2
   exact ⟨_, er_, by first | exact Kd.S_nil _ _ _ _ _ | exact Kd.N_nil _ _ _ _ _ | exact Kd.V_nil _ _ _ _ _ | exact Kd.Q_nil _ _ _ _ _ | exact Kd.R_nil _ _ _ _ _, bel_⟩

end Go.Proofs.Ytdinepghommchaa.V

-- Written by a program of this session over the kit's printer: wip/gp.py.
namespace Go.Proofs.Ytdinepghommchaa.V
open Go.RowKit Go.Proofs.YtdinepghommchaaW.PrintWords Go.Proofs.YtdinepghommchaaW.PrintLast Go.Proofs.YtdinepghommchaaW.PrintMore
attribute [local go_sem] max2_int min2_int max_two min_two max_three min_three max_four min_four   -- for this text's walks alone
set_option linter.unusedVariables false
set_option linter.unusedSimpArgs false

/-! ### veils_Triangle: function 31 -/
mutual
def veils_Triangle.l0 : Nat → List (List Int) → List (List Int) → Int → Int → Option ((List (List Int)) × Int)
 | 0, _, _, _, _ => none
 | k + 1, x4, x6, x18, x19 => if x19 < x18 then (veils_Triangle.l1 k x4 x6 x19 ([] : List Int) x18 x19 (x4.length : Int) 0) else (some (x6, 0))
def veils_Triangle.l1 : Nat → List (List Int) → List (List Int) → Int → List Int → Int → Int → Int → Int → Option ((List (List Int)) × Int)
 | 0, _, _, _, _, _, _, _, _ => none
 | k + 1, x4, x6, x7, x8, x18, x19, x23, x24 => if x24 < x23 then ((veils_veil_sum.f k x4 (wrap64 (x7 + 1)) (wrap64 (x24 + 1))).bind fun t149 => ((veils_veil_sum.f k x4 (wrap64 (x7 + 1)) x24).bind fun t150 => (if t149 > t150 then (if x8.length < 17592186044416 then (veils_Triangle.l1 k x4 x6 x7 (x8 ++ [wrap64 (x24 + 1)]) x18 x19 x23 (wrap64 (x24 + 1))) else (none)) else (veils_Triangle.l1 k x4 x6 x7 x8 x18 x19 x23 (wrap64 (x24 + 1)))))) else (if x6.length < 5864062014805 then (veils_Triangle.l0 k x4 (x6 ++ [x8]) x18 (wrap64 (x19 + 1))) else (none))
end
def veils_Triangle.f (k : Nat) (l0 : List (List Int)) : Option ((List (List Int)) × Int) := (veils_read.f k l0).bind fun bt142 => (if bt142.2 = true then (veils_Triangle.l0 k bt142.1 ([] : List (List Int)) (bt142.1.length : Int) 0) else (some (([] : List (List Int)), 2)))
set_option maxHeartbeats 8000000 in
set_option maxRecDepth 100000 in
theorem veils_Triangle.calls (k : Nat) (A0 : Option Addr) (c0 : Nat) (l0 : List (List Int)) (r1 : List (List Int)) (r2 : Int) (w : World) (hr0 : Kd.C (Kd.slice 3 (Kd.int .i64)) w A0 l0.length l0) (hc0 : l0.length ≤ c0) (h : veils_Triangle.f k l0 = some (r1, r2)) :
 Calls Try.prog 31 #[.slice A0 l0.length c0] w fun e w' => ∃ v0_ : Value, e = .returned (.tuple #[v0_, .int .i64 r2]) ∧ Kd.S (Kd.slice 3 (Kd.int .i64)) 28 w' w.heap.size (fun _ => True) v0_ r1 ∧ Below w.heap.size w w' := by
 have HR0 := Aside0.mk hr0
 have HC0 := Aside0.mk hc0
 clear hr0 hc0
 have HB := Aside0.mk (Below.refl w.heap.size w)
 have H : ((veils_read.f k l0).bind fun bt142 => (if bt142.2 = true then (veils_Triangle.l0 k bt142.1 ([] : List (List Int)) (bt142.1.length : Int) 0) else (some (([] : List (List Int)), 2)))) = some (r1, r2) := h
 clear h
 replace H := Option.bind_eq_some_iff.mp H
 obtain ⟨⟨t142, t145⟩, A20, H⟩ := H
 replace H : (if t145 = true then (veils_Triangle.l0 k t142 ([] : List (List Int)) (t142.length : Int) 0) else (some (([] : List (List Int)), 2))) = some (r1, r2) := H
 have A2 := Aside0.mk A20
 clear A20
 by_cases c3 : t145 = true
 · subst c3
   have H1 : (veils_Triangle.l0 k t142 ([] : List (List Int)) (t142.length : Int) 0) = some (r1, r2) := by rw [if_pos rfl] at H; exact H
   clear H
   have H := H1
   clear H1
   have H' := Aside0.mk H
   clear H
   go_enter Try.func31, Try.ntmps31
   go_wp2_with (first | ((with_reducible refine gate_callee (f := 51) rfl ?_); refine goesL_ (some 12) rfl rfl Try.func51 (by kernel_rfl) rfl #[.slice A0 l0.length c0] rfl ar_ ?_; (with_reducible refine (veils_read.calls k (fun k_ => k_ < w.heap.size) _ _ l0 t142 true _ ?side1 A2.out).mono ?_); (case side1 => exact Kd.V_mk HC0.out (Kd.F_below (Kd.C_F (Kd.heap_slice 3 (Kd.heap_int .i64)) HR0.out) (bel_))); rintro e w4 ⟨v143, rfl, ho0, hb⟩; refine ⟨_, rfl, ?_⟩; have n0_ := Aside0.mk (Kd.V_lower (Kd.V_mono (ok' := fun k_ => True) ho0 (fun k_ hk_ => trivial)) (below_size (bel_))); have n1_ := Aside0.mk (below_step (bel_) hb); clear HB; have HO144 := n0_; have HB := n1_; clear n0_ n1_; (try clear hb); (try clear hb2); (try clear hk); (try clear hi); (try clear ho0); obtain ⟨Ao5, co5, eo5⟩ := Kd.V_slice HO144.out; subst eo5))
   go_loopg [6, 19] k (fun kq v6 v19 w' => ∃ (x6_1 : List (List Int)) (x19_1 : Int), v19 = .int .i64 x19_1 ∧ Aside0 (veils_Triangle.l0 kq t142 x6_1 (t142.length : Int) x19_1 = some (r1, r2)) ∧ Aside0 (kq ≤ k) ∧ Aside0 (Kd.V (Kd.slice 3 (Kd.int .i64)) 28 w' w.heap.size (fun k_ => some k_ ≠ (v6 : Value).ownBlock) (.slice Ao5 t142.length co5) t142) ∧ Aside0 (Kd.S (Kd.slice 3 (Kd.int .i64)) 28 w' w.heap.size (fun _ => True) v6 x6_1) ∧ Aside0 (Below w.heap.size w w'))
   case atStart => exact ⟨(([] : List (List Int))), (0), rf_, H', ⟨Nat.le_refl _⟩, ⟨by (with_reducible repeat (first | apply Kd.V_alloc | apply Kd.V_drewN | apply Kd.V_drew)); exact Kd.V_mono HO144.out (fun _ hk => (by simp [Value.ownBlock]))⟩, ⟨by first | exact Kd.S_nil _ _ _ _ _ | exact Kd.N_nil _ _ _ _ _ | exact Kd.V_nil _ _ _ _ _ | exact Kd.Q_nil _ _ _ _ _ | exact Kd.R_nil _ _ _ _ _⟩, ⟨bel_⟩⟩
   case round =>
    clear H'
    try clear p2
    try clear c3
    try clear c5
    obtain ⟨x6_1, x19_1, rfl, HA, HK1, HO_4, HO_6, HB⟩ := hrel
    cases gk with
    | zero => exact absurd HA.out (by simp [veils_Triangle.l0])
    | succ k1 =>
     have H := HA.out
     clear HA
     simp only [veils_Triangle.l0] at H
     by_cases c6 : x19_1 < (t142.length : Int)
     · rw [if_pos c6] at H
       have c6b0 : decide (x19_1 < (t142.length : Int)) = true := decide_eq_true c6
       clear c6
       have H' := Aside0.mk H
       clear H
       go_wp2
       go_loopg [8, 24] k1 (fun kq v8 v24 w' => ∃ (x8_2 : List Int) (x24_2 : Int), v24 = .int .i64 x24_2 ∧ Aside0 (veils_Triangle.l1 kq t142 x6_1 x19_1 x8_2 (t142.length : Int) x19_1 (t142.length : Int) x24_2 = some (r1, r2)) ∧ Aside0 (kq ≤ k1) ∧ Aside0 (Kd.V (Kd.slice 3 (Kd.int .i64)) 28 w' w.heap.size (fun k_ => some k_ ≠ (u6 : Value).ownBlock ∧ some k_ ≠ (v8 : Value).ownBlock) (.slice Ao5 t142.length co5) t142) ∧ Aside0 (Kd.S (Kd.slice 3 (Kd.int .i64)) 28 w' w.heap.size (fun k_ => some k_ ≠ (v8 : Value).ownBlock) u6 x6_1) ∧ Aside0 (Kd.R (Kd.int .i64) 3 w' w.heap.size (fun _ => True) v8 x8_2) ∧ Aside0 (Below w.heap.size w w'))
       case atStart => exact ⟨(([] : List Int)), (0), rf_, H', ⟨Nat.le_refl _⟩, ⟨by (with_reducible repeat (first | apply Kd.V_alloc | apply Kd.V_drewN | apply Kd.V_drew)); exact Kd.V_mono HO_4.out (fun _ hk => ⟨hk, (by simp [Value.ownBlock])⟩)⟩, ⟨by (with_reducible repeat (first | apply Kd.S_alloc | apply Kd.S_drewN | apply Kd.S_drew)); exact Kd.S_mono HO_6.out (fun _ hk => (by simp [Value.ownBlock]))⟩, ⟨by first | exact Kd.R_nil _ _ _ _ _ | exact Kd.N_nil _ _ _ _ _ | exact Kd.V_nil _ _ _ _ _ | exact Kd.Q_nil _ _ _ _ _ | exact Kd.S_nil _ _ _ _ _⟩, ⟨bel_⟩⟩
       case round =>
        clear H'
        try clear p2
        try clear c3
        try clear c5
        try clear c6
        try clear c6b0
        try clear p2
        obtain ⟨x8_2, x24_2, rfl, HA, HK2, HO_4, HO_6, HO_8, HB⟩ := hrel
        cases gk with
        | zero => exact absurd HA.out (by simp [veils_Triangle.l1])
        | succ k2 =>
         have H := HA.out
         clear HA
         simp only [veils_Triangle.l1] at H
         by_cases c7 : x24_2 < (t142.length : Int)
         · rw [if_pos c7] at H
           have c7b0 : decide (x24_2 < (t142.length : Int)) = true := decide_eq_true c7
           clear c7
           replace H := Option.bind_eq_some_iff.mp H
           obtain ⟨t149, A80, H⟩ := H
           replace H : ((veils_veil_sum.f k2 t142 (wrap64 (x19_1 + 1)) x24_2).bind fun t150 => (if t149 > t150 then (if x8_2.length < 17592186044416 then (veils_Triangle.l1 k2 t142 x6_1 x19_1 (x8_2 ++ [wrap64 (x24_2 + 1)]) (t142.length : Int) x19_1 (t142.length : Int) (wrap64 (x24_2 + 1))) else (none)) else (veils_Triangle.l1 k2 t142 x6_1 x19_1 x8_2 (t142.length : Int) x19_1 (t142.length : Int) (wrap64 (x24_2 + 1))))) = some (r1, r2) := H
           have A8 := Aside0.mk A80
           clear A80
           replace H := Option.bind_eq_some_iff.mp H
           obtain ⟨t150, A90, H⟩ := H
           replace H : (if t149 > t150 then (if x8_2.length < 17592186044416 then (veils_Triangle.l1 k2 t142 x6_1 x19_1 (x8_2 ++ [wrap64 (x24_2 + 1)]) (t142.length : Int) x19_1 (t142.length : Int) (wrap64 (x24_2 + 1))) else (none)) else (veils_Triangle.l1 k2 t142 x6_1 x19_1 x8_2 (t142.length : Int) x19_1 (t142.length : Int) (wrap64 (x24_2 + 1)))) = some (r1, r2) := H
           have A9 := Aside0.mk A90
           clear A90
           by_cases c10 : t149 > t150
           · rw [if_pos c10] at H
             have c10b0 : decide (t150 < t149) = true := decide_eq_true c10
             clear c10
             by_cases c11 : x8_2.length < 17592186044416
             · rw [if_pos c11] at H
               have LMc11 := Aside0.mk c11
               clear c11
               obtain ⟨y151, hy151⟩ : ∃ y_ : List Int, y_ = (x8_2 ++ [wrap64 (x24_2 + 1)]) := ⟨_, rfl⟩
               replace H : (veils_Triangle.l1 k2 t142 x6_1 x19_1 y151 (t142.length : Int) x19_1 (t142.length : Int) (wrap64 (x24_2 + 1))) = some (r1, r2) := by first | (rw [hy151]; with_reducible exact H) | (have H2_ := (Option.bind_some _ _).symm.trans H; rw [hy151]; with_reducible exact H2_) | (have H2_ := (Option.bind_some _ _).symm.trans H; with_reducible exact H2_) | with_reducible exact H | (rw [hy151]; exact H) | exact H
               have Ny151 := Aside0.mk hy151
               clear hy151
               have H' := Aside0.mk H
               clear H
               go_wp2_with (first | ((with_reducible refine gate_callee (f := 54) rfl ?_); refine goesL_ (some 32) rfl rfl Try.func54 (by kernel_rfl) rfl #[.slice Ao5 t142.length co5, .int .i64 (wrap64 (x19_1 + 1)), .int .i64 (wrap64 (x24_2 + 1))] rfl ar_ ?_; (with_reducible refine (veils_veil_sum.calls k2 _ _ t142 (wrap64 (x19_1 + 1)) (wrap64 (x24_2 + 1)) t149 _ ?side1 ?side2 A8.out).mono ?_); (case side1 => repeat (first | exact (Kd.V_reads' HO_4.out).2.2 | (with_reducible refine Kd.C_alloc ?_ _) | (with_reducible refine Kd.C_drewN ?_ _) | (with_reducible refine Kd.C_drew ?_))); (case side2 => exact (Kd.V_reads' HO_4.out).2.1); rintro e w' ⟨rfl, ⟨nd, rfl⟩⟩; refine ⟨_, rfl, ?_⟩) | ((with_reducible refine gate_callee (f := 54) rfl ?_); refine goesL_ (some 37) rfl rfl Try.func54 (by kernel_rfl) rfl #[.slice Ao5 t142.length co5, .int .i64 (wrap64 (x19_1 + 1)), .int .i64 x24_2] rfl ar_ ?_; (with_reducible refine (veils_veil_sum.calls k2 _ _ t142 (wrap64 (x19_1 + 1)) x24_2 t150 _ ?side1 ?side2 A9.out).mono ?_); (case side1 => repeat (first | exact (Kd.V_reads' HO_4.out).2.2 | (with_reducible refine Kd.C_alloc ?_ _) | (with_reducible refine Kd.C_drewN ?_ _) | (with_reducible refine Kd.C_drew ?_))); (case side2 => exact (Kd.V_reads' HO_4.out).2.1); rintro e w' ⟨rfl, ⟨nd, rfl⟩⟩; refine ⟨_, rfl, ?_⟩) | ((with_reducible refine gate_builtin (b := .append) (xs := #[.tmp 39, .tmp 42]) rfl ?_); at_builtin; refine Kd.R_append (Kd.int .i64) (w0 := w) w.heap.size rfl (.tmp 39) (.tmp 42) 28 3 (.int .i64 0) 8 rfl Try.underlying28 info3 rfl (by decide) (by omega) u8 x8_2 (wrap64 (x24_2 + 1)) [.int .i64 (wrap64 (x24_2 + 1))] (fun _ => True) (fun _ => False) rfl rfl ?aP (fun _ hk => hk.elim) ?aF ?aO ?aB ?aS ?aL ?_; (case aP => exact rfl); (case aB => exact (bel_)); (case aF => exact (fun _ _ => trivial)); (case aO => exact (nR_ HO_8.out)); (case aS => exact (below_size (bel_))); (case aL => have := LMc11.out; omega); intro v152 w12 ho hb hg hat; rw [← Ny151.out] at ho; have n0_ := Aside0.mk (Kd.V_afterv (ok := (fun k_ => some k_ ≠ (u6 : Value).ownBlock)) (nV_ HO_4.out) hg hat); have n1_ := Aside0.mk (Kd.S_after (ok := (fun _ => True)) (by (with_reducible repeat (first | apply Kd.S_alloc | apply Kd.S_drewN | apply Kd.S_drew)); exact Kd.S_mono HO_6.out (fun _ hk => ⟨trivial, hk⟩)) hg hat); have n2_ := Aside0.mk (hb); have n3_ := Aside0.mk (ho); clear HO_4; clear HO_6; clear HB; clear HO_8; have HO_4 := n0_; have HO_6 := n1_; have HB := n2_; have HO153 := n3_; clear n0_ n1_ n2_ n3_; clear ho hb hg hat))
               go_roundg k2
               case measure => have := HK1.out; have := HK2.out; omega
               case rel => exact ⟨(y151), (wrap64 (x24_2 + 1)), rf_, H', ⟨by have := HK1.out; have := HK2.out; omega⟩, ⟨nV_ HO_4.out⟩, ⟨by (with_reducible repeat (first | apply Kd.S_alloc | apply Kd.S_drewN | apply Kd.S_drew)); exact Kd.S_mono HO_6.out (fun _ hk => hk.2)⟩, ⟨nR_ HO153.out⟩, ⟨bel_⟩⟩
             · rw [if_neg c11] at H
               exact absurd H (by simp)
           · rw [if_neg c10] at H
             have c10b0 : decide (t150 < t149) = false := decide_eq_false c10
             clear c10
             have H' := Aside0.mk H
             clear H
             go_wp2_with (first | ((with_reducible refine gate_callee (f := 54) rfl ?_); refine goesL_ (some 32) rfl rfl Try.func54 (by kernel_rfl) rfl #[.slice Ao5 t142.length co5, .int .i64 (wrap64 (x19_1 + 1)), .int .i64 (wrap64 (x24_2 + 1))] rfl ar_ ?_; (with_reducible refine (veils_veil_sum.calls k2 _ _ t142 (wrap64 (x19_1 + 1)) (wrap64 (x24_2 + 1)) t149 _ ?side1 ?side2 A8.out).mono ?_); (case side1 => repeat (first | exact (Kd.V_reads' HO_4.out).2.2 | (with_reducible refine Kd.C_alloc ?_ _) | (with_reducible refine Kd.C_drewN ?_ _) | (with_reducible refine Kd.C_drew ?_))); (case side2 => exact (Kd.V_reads' HO_4.out).2.1); rintro e w' ⟨rfl, ⟨nd, rfl⟩⟩; refine ⟨_, rfl, ?_⟩) | ((with_reducible refine gate_callee (f := 54) rfl ?_); refine goesL_ (some 37) rfl rfl Try.func54 (by kernel_rfl) rfl #[.slice Ao5 t142.length co5, .int .i64 (wrap64 (x19_1 + 1)), .int .i64 x24_2] rfl ar_ ?_; (with_reducible refine (veils_veil_sum.calls k2 _ _ t142 (wrap64 (x19_1 + 1)) x24_2 t150 _ ?side1 ?side2 A9.out).mono ?_); (case side1 => repeat (first | exact (Kd.V_reads' HO_4.out).2.2 | (with_reducible refine Kd.C_alloc ?_ _) | (with_reducible refine Kd.C_drewN ?_ _) | (with_reducible refine Kd.C_drew ?_))); (case side2 => exact (Kd.V_reads' HO_4.out).2.1); rintro e w' ⟨rfl, ⟨nd, rfl⟩⟩; refine ⟨_, rfl, ?_⟩))
             go_roundg k2
             case measure => have := HK1.out; have := HK2.out; omega
             case rel => exact ⟨(x8_2), (wrap64 (x24_2 + 1)), rf_, H', ⟨by have := HK1.out; have := HK2.out; omega⟩, ⟨nV_ HO_4.out⟩, ⟨nS_ HO_6.out⟩, ⟨nR_ HO_8.out⟩, ⟨bel_⟩⟩
         · rw [if_neg c7] at H
           have c7b0 : decide (x24_2 < (t142.length : Int)) = false := decide_eq_false c7
           clear c7
           by_cases c13 : x6_1.length < 5864062014805
           · rw [if_pos c13] at H
             have LMc13 := Aside0.mk c13
             clear c13
             obtain ⟨y146, hy146⟩ : ∃ y_ : List (List Int), y_ = (x6_1 ++ [x8_2]) := ⟨_, rfl⟩
             replace H : (veils_Triangle.l0 k2 t142 y146 (t142.length : Int) (wrap64 (x19_1 + 1))) = some (r1, r2) := by first | (rw [hy146]; with_reducible exact H) | (have H2_ := (Option.bind_some _ _).symm.trans H; rw [hy146]; with_reducible exact H2_) | (have H2_ := (Option.bind_some _ _).symm.trans H; with_reducible exact H2_) | with_reducible exact H | (rw [hy146]; exact H) | exact H
             have Ny146 := Aside0.mk hy146
             clear hy146
             have H' := Aside0.mk H
             clear H
             obtain ⟨Ao15, co15, eo15⟩ := Kd.R_slice HO_8.out
             subst eo15
             go_wp2_with (first | ((with_reducible refine gate_builtin (b := .append) (xs := #[.tmp 45, .tmp 47]) rfl ?_); at_builtin; refine Kd.S_append (Kd.slice 3 (Kd.int .i64)) (w0 := w) w.heap.size rfl (.tmp 45) (.tmp 47) 27 28 (.slice none 0 0) 24 rfl Try.underlying27 info28 rfl (by decide) (by omega) u6 x6_1 x8_2 [.slice Ao15 x8_2.length co15] (fun _ => True) (fun k_ => some k_ = (.slice Ao15 x8_2.length co15 : Value).ownBlock) rfl rfl ?aP (fun k_ hk_ => ((Kd.R_mono (ok' := fun k_ => ((fun _ => True)) k_ ∧ some k_ ≠ (u6 : Value).ownBlock) (Kd.R_apart' (HO_8.out) (Kd.S_typed HO_6.out) (by decide)) (fun k_ hk => ⟨trivial, hk.2⟩))).1 k_ hk_.symm) ?aF ?aO ?aB ?aS ?aL ?_; (case aP => exact Kd.M_row (Kd.R_mono (Kd.R_tight rfl (Kd.R_mono (ok' := fun k_ => ((fun _ => True)) k_ ∧ some k_ ≠ (u6 : Value).ownBlock) (Kd.R_apart' (HO_8.out) (Kd.S_typed HO_6.out) (by decide)) (fun k_ hk => ⟨trivial, hk.2⟩))) (fun _ h_ => h_))); (case aB => exact (bel_)); (case aF => exact (fun _ _ => trivial)); (case aO => exact (by (with_reducible repeat (first | apply Kd.S_alloc | apply Kd.S_drewN | apply Kd.S_drew)); exact Kd.S_mono HO_6.out (fun k_ hk => ⟨trivial, fun e_ => hk e_⟩))); (case aS => exact (below_size (bel_))); (case aL => have := LMc13.out; omega); intro v147 w14 ho hb hg hat; rw [← Ny146.out] at ho; have n0_ := Aside0.mk (Kd.V_afterv (ok := (fun k_ => some k_ ≠ (.slice Ao15 x8_2.length co15 : Value).ownBlock)) (by (with_reducible repeat (first | apply Kd.V_alloc | apply Kd.V_drewN | apply Kd.V_drew)); exact Kd.V_mono HO_4.out (fun _ hk => ⟨hk.2, hk.1⟩)) hg hat); have n1_ := Aside0.mk (hb); have n2_ := Aside0.mk (ho); clear HO_4; clear HB; clear HO_6; clear HO_8; have HO_4 := n0_; have HB := n1_; have HO148 := n2_; clear n0_ n1_ n2_; clear ho hb hg hat))
             go_roundg k2
             case measure => have := HK1.out; have := HK2.out; omega
             case rel => exact ⟨(y146), (wrap64 (x19_1 + 1)), rf_, H', ⟨by have := HK1.out; have := HK2.out; omega⟩, ⟨by (with_reducible repeat (first | apply Kd.V_alloc | apply Kd.V_drewN | apply Kd.V_drew)); exact Kd.V_mono HO_4.out (fun _ hk => hk.2)⟩, ⟨nS_ HO148.out⟩, ⟨bel_⟩⟩
           · rw [if_neg c13] at H
             exact absurd H (by simp)
     · rw [if_neg c6] at H
       have c6b0 : decide (x19_1 < (t142.length : Int)) = false := decide_eq_false c6
       clear c6
       simp only [Option.some.injEq, Prod.mk.injEq] at H
       obtain ⟨rfl, rfl⟩ := H
       go_wp2
       go_ret2
       exact ⟨_, er_, by (with_reducible repeat (first | apply Kd.S_alloc | apply Kd.S_drewN | apply Kd.S_drew)); exact HO_6.out, bel_⟩
 · replace c3 := Bool.eq_false_iff.mpr c3
   subst c3
   have H1 : (some (([] : List (List Int)), 2)) = some (r1, r2) := by rw [if_neg (show ¬ (false = true) by decide)] at H; exact H
   clear H
   have H := H1
   clear H1
   simp only [Option.some.injEq, Prod.mk.injEq] at H
   obtain ⟨rfl, rfl⟩ := H
   go_enter Try.func31, Try.ntmps31
   go_wp2_with (first | ((with_reducible refine gate_callee (f := 51) rfl ?_); refine goesL_ (some 12) rfl rfl Try.func51 (by kernel_rfl) rfl #[.slice A0 l0.length c0] rfl ar_ ?_; (with_reducible refine (veils_read.calls k (fun k_ => k_ < w.heap.size) _ _ l0 t142 false _ ?side1 A2.out).mono ?_); (case side1 => exact Kd.V_mk HC0.out (Kd.F_below (Kd.C_F (Kd.heap_slice 3 (Kd.heap_int .i64)) HR0.out) (bel_))); rintro e w16 ⟨v143, rfl, ho0, hb⟩; refine ⟨_, rfl, ?_⟩; have n0_ := Aside0.mk (Kd.V_lower (Kd.V_mono (ok' := fun k_ => True) ho0 (fun k_ hk_ => trivial)) (below_size (bel_))); have n1_ := Aside0.mk (below_step (bel_) hb); clear HB; have HO144 := n0_; have HB := n1_; clear n0_ n1_; (try clear hb); (try clear hb2); (try clear hk); (try clear hi); (try clear ho0)))
   go_ret2
   exact ⟨_, er_, by first | exact Kd.S_nil _ _ _ _ _ | exact Kd.N_nil _ _ _ _ _ | exact Kd.V_nil _ _ _ _ _ | exact Kd.Q_nil _ _ _ _ _ | exact Kd.R_nil _ _ _ _ _, bel_⟩

end Go.Proofs.Ytdinepghommchaa.V

-- Written by a program of this session over the kit's printer: wip/gp.py.
namespace Go.Proofs.Ytdinepghommchaa.V
open Go.RowKit Go.Proofs.YtdinepghommchaaW.PrintWords Go.Proofs.YtdinepghommchaaW.PrintLast Go.Proofs.YtdinepghommchaaW.PrintMore
attribute [local go_sem] max2_int min2_int max_two min_two max_three min_three max_four min_four   -- for this text's walks alone
set_option linter.unusedVariables false
set_option linter.unusedSimpArgs false

/-! ### clochelaw09_cross: function 44 -/
def clochelaw09_cross.f  : Option ((List (List Int))) := some (([(([0, 1, 0] : List Int)), (([1, (-1), 1] : List Int)), (([0, 1, 0] : List Int))] : List (List Int)))
set_option maxHeartbeats 8000000 in
set_option maxRecDepth 100000 in
theorem clochelaw09_cross.calls  (r : List (List Int)) (w : World) (h : clochelaw09_cross.f  = some r) :
 Calls Try.prog 44 #[] w fun e w' => ∃ v0_ : Value, e = .returned (v0_) ∧ Kd.N (Kd.slice 3 (Kd.int .i64)) 28 w' w.heap.size (fun k_ => (w.heap.size ≤ k_)) v0_ r ∧ Below w.heap.size w w' := by
 have HB := Aside0.mk (Below.refl w.heap.size w)
 have H : (some (([(([0, 1, 0] : List Int)), (([1, (-1), 1] : List Int)), (([0, 1, 0] : List Int))] : List (List Int)))) = some r := h
 clear h
 obtain ⟨y154, hy154⟩ : ∃ y_ : List Int, y_ = (([0, 1, 0] : List Int)) := ⟨_, rfl⟩
 replace H : (some (([y154, (([1, (-1), 1] : List Int)), (([0, 1, 0] : List Int))] : List (List Int)))) = some r := by first | (rw [hy154]; with_reducible exact H) | (have H2_ := (Option.bind_some _ _).symm.trans H; rw [hy154]; with_reducible exact H2_) | (have H2_ := (Option.bind_some _ _).symm.trans H; with_reducible exact H2_) | with_reducible exact H | (rw [hy154]; exact H) | exact H
 have Ny154 := Aside0.mk hy154
 clear hy154
 obtain ⟨y157, hy157⟩ : ∃ y_ : List Int, y_ = (([1, (-1), 1] : List Int)) := ⟨_, rfl⟩
 replace H : (some (([y154, y157, (([0, 1, 0] : List Int))] : List (List Int)))) = some r := by first | (rw [hy157]; with_reducible exact H) | (have H2_ := (Option.bind_some _ _).symm.trans H; rw [hy157]; with_reducible exact H2_) | (have H2_ := (Option.bind_some _ _).symm.trans H; with_reducible exact H2_) | with_reducible exact H | (rw [hy157]; exact H) | exact H
 have Ny157 := Aside0.mk hy157
 clear hy157
 obtain ⟨y160, hy160⟩ : ∃ y_ : List Int, y_ = (([0, 1, 0] : List Int)) := ⟨_, rfl⟩
 replace H : (some (([y154, y157, y160] : List (List Int)))) = some r := by first | (rw [hy160]; with_reducible exact H) | (have H2_ := (Option.bind_some _ _).symm.trans H; rw [hy160]; with_reducible exact H2_) | (have H2_ := (Option.bind_some _ _).symm.trans H; with_reducible exact H2_) | with_reducible exact H | (rw [hy160]; exact H) | exact H
 have Ny160 := Aside0.mk hy160
 clear hy160
 obtain ⟨y163, hy163⟩ : ∃ y_ : List (List Int), y_ = (([y154, y157, y160] : List (List Int))) := ⟨_, rfl⟩
 replace H : (some y163) = some r := by first | (rw [hy163]; with_reducible exact H) | (have H2_ := (Option.bind_some _ _).symm.trans H; rw [hy163]; with_reducible exact H2_) | (have H2_ := (Option.bind_some _ _).symm.trans H; with_reducible exact H2_) | with_reducible exact H | (rw [hy163]; exact H) | exact H
 have Ny163 := Aside0.mk hy163
 clear hy163
 obtain rfl := Option.some.inj H
 go_enter Try.func44, Try.ntmps44
 go_wp2_with (first | ((with_reducible refine gate_dst (N := 1) rfl ?_); refine Kd.R_lit (Kd.int .i64) _ 3 ?hg (N := 1) ?hd (xs := ([0, 1, 0] : List Int)) (inner := [.int .i64 0, .int .i64 1, .int .i64 0]) (ok := fun _ => True) (okp := fun _ => True) ?hr ?hp (fun _ hk => hk) trivial (Below.refl _ _) (Nat.le_refl _) (by simp) ?_; (case hd => rfl); (case hg => rfl); (case hr => first | (go_simp; done) | (go_simp; rfl)); (case hp => exact (Reps.one (show Kd.M (Kd.int .i64) _ _ _ 0 [.int .i64 0] from rfl) (Reps.one (show Kd.M (Kd.int .i64) _ _ _ 1 [.int .i64 1] from rfl) (Reps.one (show Kd.M (Kd.int .i64) _ _ _ 0 [.int .i64 0] from rfl) (Reps.none _ _))))); intro v155 w1 ho2 hb hg_ hnew_; clear hg_ hnew_; (first | rw [← Ny154.out] at ho2 | (simp only [Int.reduceToNat] at ho2; rw [← Ny154.out] at ho2)); have n0_ := Aside0.mk (Kd.R_lower (Kd.R_newM (M := fun k_ => (w.heap.size ≤ k_)) ho2 (below_size (bel_)) (fun k_ h_ => h_)) (below_size (bel_))); have n1_ := Aside0.mk (below_step (bel_) hb); clear HB; have HO156 := n0_; have HB := n1_; clear n0_ n1_; clear hb ho2) | ((with_reducible refine gate_dst (N := 2) rfl ?_); refine Kd.R_lit (Kd.int .i64) _ 3 ?hg (N := 2) ?hd (xs := ([1, (-1), 1] : List Int)) (inner := [.int .i64 1, .int .i64 (-1), .int .i64 1]) (ok := fun _ => True) (okp := fun _ => True) ?hr ?hp (fun _ hk => hk) trivial (Below.refl _ _) (Nat.le_refl _) (by simp) ?_; (case hd => rfl); (case hg => rfl); (case hr => first | (go_simp; done) | (go_simp; rfl)); (case hp => exact (Reps.one (show Kd.M (Kd.int .i64) _ _ _ 1 [.int .i64 1] from rfl) (Reps.one (show Kd.M (Kd.int .i64) _ _ _ (-1) [.int .i64 (-1)] from rfl) (Reps.one (show Kd.M (Kd.int .i64) _ _ _ 1 [.int .i64 1] from rfl) (Reps.none _ _))))); intro v158 w3 ho4 hb hg_ hnew_; clear hg_ hnew_; (first | rw [← Ny157.out] at ho4 | (simp only [Int.reduceToNat] at ho4; rw [← Ny157.out] at ho4)); have n0_ := Aside0.mk (Kd.R_elder' (nR_ HO156.out) (Kd.R_base ho4) hb); have n1_ := Aside0.mk (Kd.R_lower (Kd.R_new' (Kd.R_newM (M := fun k_ => (w.heap.size ≤ k_)) ho4 (below_size (bel_)) (fun k_ h_ => h_)) (Kd.R_lt (nR_ HO156.out))) (below_size (bel_))); have n2_ := Aside0.mk (below_step (bel_) hb); clear HO156; clear HB; have HO156 := n0_; have HO159 := n1_; have HB := n2_; clear n0_ n1_ n2_; clear hb ho4) | ((with_reducible refine gate_dst (N := 3) rfl ?_); refine Kd.R_lit (Kd.int .i64) _ 3 ?hg (N := 3) ?hd (xs := ([0, 1, 0] : List Int)) (inner := [.int .i64 0, .int .i64 1, .int .i64 0]) (ok := fun _ => True) (okp := fun _ => True) ?hr ?hp (fun _ hk => hk) trivial (Below.refl _ _) (Nat.le_refl _) (by simp) ?_; (case hd => rfl); (case hg => rfl); (case hr => first | (go_simp; done) | (go_simp; rfl)); (case hp => exact (Reps.one (show Kd.M (Kd.int .i64) _ _ _ 0 [.int .i64 0] from rfl) (Reps.one (show Kd.M (Kd.int .i64) _ _ _ 1 [.int .i64 1] from rfl) (Reps.one (show Kd.M (Kd.int .i64) _ _ _ 0 [.int .i64 0] from rfl) (Reps.none _ _))))); intro v161 w5 ho6 hb hg_ hnew_; clear hg_ hnew_; (first | rw [← Ny160.out] at ho6 | (simp only [Int.reduceToNat] at ho6; rw [← Ny160.out] at ho6)); have n0_ := Aside0.mk (Kd.R_elder' (nR_ HO156.out) (Kd.R_base ho6) hb); have n1_ := Aside0.mk (Kd.R_elder' (nR_ HO159.out) (Kd.R_base ho6) hb); have n2_ := Aside0.mk (Kd.R_lower (Kd.R_new' (Kd.R_new' (Kd.R_newM (M := fun k_ => (w.heap.size ≤ k_)) ho6 (below_size (bel_)) (fun k_ h_ => h_)) (Kd.R_lt (nR_ HO156.out))) (Kd.R_lt (nR_ HO159.out))) (below_size (bel_))); have n3_ := Aside0.mk (below_step (bel_) hb); clear HO156; clear HO159; clear HB; have HO156 := n0_; have HO159 := n1_; have HO162 := n2_; have HB := n3_; clear n0_ n1_ n2_ n3_; clear hb ho6; obtain ⟨Ao7, co7, eo7⟩ := Kd.R_slice HO156.out; subst eo7; obtain ⟨Ao8, co8, eo8⟩ := Kd.R_slice HO159.out; subst eo8; obtain ⟨Ao9, co9, eo9⟩ := Kd.R_slice HO162.out; subst eo9) | ((with_reducible refine gate_dst (N := 4) rfl ?_); refine Kd.N_lit (Kd.slice 3 (Kd.int .i64)) _ 28 ?hg (N' := 4) ?hd (xs := ([y154, y157, y160] : List (List Int))) (inner := [.slice Ao7 y154.length co7, .slice Ao8 y157.length co8, .slice Ao9 y160.length co9]) (ok := (fun k_ => (w.heap.size ≤ k_))) (okp := (fun k_ => (w.heap.size ≤ k_))) ?hr ?hp (fun _ hk => hk) ((show ∀ k_, w5.heap.size ≤ k_ → (fun k_ => (w.heap.size ≤ k_)) k_ from fun k_ hk => (Nat.le_trans (below_size (bel_)) hk)) _ (Nat.le_refl _)) (Below.refl _ _) (Nat.le_refl _) (by simp) ?_; (case hd => rfl); (case hg => rfl); (case hr => first | (go_simp; done) | (go_simp; rfl)); (case hp => exact (Reps.one (show Kd.FK (Kd.slice 3 (Kd.int .i64)) _ _ y154 [.slice Ao7 y154.length co7] from (Kd.FK_slice_mk (Kd.R_reads' (Kd.R_mono (ok' := (fun k_ => (w.heap.size ≤ k_))) (HO156.out) (fun k_ hk => hk.1.1.1))).2.1 (Kd.R_F (Kd.R_mono (ok' := (fun k_ => (w.heap.size ≤ k_))) (HO156.out) (fun k_ hk => hk.1.1.1))))) (Reps.one (show Kd.FK (Kd.slice 3 (Kd.int .i64)) _ _ y157 [.slice Ao8 y157.length co8] from (Kd.FK_slice_mk (Kd.R_reads' (Kd.R_mono (ok' := (fun k_ => (w.heap.size ≤ k_))) (HO159.out) (fun k_ hk => hk.1.1.1))).2.1 (Kd.R_F (Kd.R_mono (ok' := (fun k_ => (w.heap.size ≤ k_))) (HO159.out) (fun k_ hk => hk.1.1.1))))) (Reps.one (show Kd.FK (Kd.slice 3 (Kd.int .i64)) _ _ y160 [.slice Ao9 y160.length co9] from (Kd.FK_slice_mk (Kd.R_reads' (Kd.R_mono (ok' := (fun k_ => (w.heap.size ≤ k_))) (HO162.out) (fun k_ hk => hk.1.1.1))).2.1 (Kd.R_F (Kd.R_mono (ok' := (fun k_ => (w.heap.size ≤ k_))) (HO162.out) (fun k_ hk => hk.1.1.1))))) (Reps.none _ _))))); intro v164 w10 ho11 hb hg_ hnew_; clear hg_ hnew_; (first | rw [← Ny163.out] at ho11 | (simp only [Int.reduceToNat] at ho11; rw [← Ny163.out] at ho11)); have n0_ := Aside0.mk (Kd.N_lower ho11 (below_size (bel_))); have n1_ := Aside0.mk (below_step (bel_) hb); clear HB; clear HO156; clear HO159; clear HO162; have HO165 := n0_; have HB := n1_; clear n0_ n1_; clear hb ho11))
 go_ret
 exact ⟨_, er_, by (with_reducible repeat (first | apply Kd.N_alloc | apply Kd.N_drewN | apply Kd.N_drew)); exact HO165.out, bel_⟩

end Go.Proofs.Ytdinepghommchaa.V

-- Written by a program of this session over the kit's printer: wip/gp.py.
namespace Go.Proofs.Ytdinepghommchaa.V
open Go.RowKit Go.Proofs.YtdinepghommchaaW.PrintWords Go.Proofs.YtdinepghommchaaW.PrintLast Go.Proofs.YtdinepghommchaaW.PrintMore
attribute [local go_sem] max2_int min2_int max_two min_two max_three min_three max_four min_four   -- for this text's walks alone
set_option linter.unusedVariables false
set_option linter.unusedSimpArgs false

/-! ### veils_Minus: function 45 -/
mutual
def veils_Minus.l0 : Nat → List (List Int) → Int → Int → List (List Int) → Int → Int → Option (Int × Int × Int)
 | 0, _, _, _, _, _, _ => none
 | k + 1, x5, x7, x8, x20, x21, x22 => if x22 < x21 then (if 0 ≤ x22 then (if x22 < (x20.length : Int) then (veils_Minus.l1 k x5 x7 x8 x22 x20 x21 x22 (rd_L1 x20 x22) ((rd_L1 x20 x22).length : Int) 0) else (none)) else (none)) else (some (x7, x8, 0))
def veils_Minus.l1 : Nat → List (List Int) → Int → Int → Int → List (List Int) → Int → Int → List Int → Int → Int → Option (Int × Int × Int)
 | 0, _, _, _, _, _, _, _, _, _, _ => none
 | k + 1, x5, x7, x8, x9, x20, x21, x22, x27, x28, x29 => if x29 < x28 then (if 0 ≤ x29 then (if x29 < (x27.length : Int) then (if (rd x27 x29) < 0 then ((veils_veil_sum.f k x5 (x5.length : Int) x29).bind fun t172 => ((veils_veil_sum.f k x5 (wrap64 (x9 + 1)) x29).bind fun t173 => (veils_Minus.l1 k x5 (wrap64 (x7 + 1)) (wrap64 (x8 + (wrap64 ((rd x27 x29) * (wrap64 (t172 - t173)))))) x9 x20 x21 x22 x27 x28 (wrap64 (x29 + 1))))) else ((veils_veil_sum.f k x5 (x5.length : Int) x29).bind fun t174 => ((veils_veil_sum.f k x5 (wrap64 (x9 + 1)) x29).bind fun t175 => (veils_Minus.l1 k x5 x7 (wrap64 (x8 + (wrap64 ((rd x27 x29) * (wrap64 (t174 - t175)))))) x9 x20 x21 x22 x27 x28 (wrap64 (x29 + 1)))))) else (none)) else (none)) else (veils_Minus.l0 k x5 x7 x8 x20 x21 (wrap64 (x22 + 1)))
end
def veils_Minus.f (k : Nat) (l0 : List (List Int)) : Option (Int × Int × Int) := (veils_read.f k l0).bind fun bt166 => (if bt166.2 = true then (veils_Minus.l0 k bt166.1 0 0 bt166.1 (bt166.1.length : Int) 0) else (some (0, 0, 2)))
set_option maxHeartbeats 8000000 in
set_option maxRecDepth 100000 in
theorem veils_Minus.calls (k : Nat) (A0 : Option Addr) (c0 : Nat) (l0 : List (List Int)) (r1 : Int) (r2 : Int) (r3 : Int) (w : World) (hr0 : Kd.C (Kd.slice 3 (Kd.int .i64)) w A0 l0.length l0) (hc0 : l0.length ≤ c0) (h : veils_Minus.f k l0 = some (r1, r2, r3)) :
 Calls Try.prog 45 #[.slice A0 l0.length c0] w fun e w' => e = .returned (.tuple #[.int .i64 r1, .int .i64 r2, .int .i64 r3]) ∧ Below w.heap.size w w' := by
 have HR0 := Aside0.mk hr0
 have HC0 := Aside0.mk hc0
 clear hr0 hc0
 have HB := Aside0.mk (Below.refl w.heap.size w)
 have H : ((veils_read.f k l0).bind fun bt166 => (if bt166.2 = true then (veils_Minus.l0 k bt166.1 0 0 bt166.1 (bt166.1.length : Int) 0) else (some (0, 0, 2)))) = some (r1, r2, r3) := h
 clear h
 replace H := Option.bind_eq_some_iff.mp H
 obtain ⟨⟨t166, t169⟩, A20, H⟩ := H
 replace H : (if t169 = true then (veils_Minus.l0 k t166 0 0 t166 (t166.length : Int) 0) else (some (0, 0, 2))) = some (r1, r2, r3) := H
 have A2 := Aside0.mk A20
 clear A20
 by_cases c3 : t169 = true
 · subst c3
   have H1 : (veils_Minus.l0 k t166 0 0 t166 (t166.length : Int) 0) = some (r1, r2, r3) := by rw [if_pos rfl] at H; exact H
   clear H
   have H := H1
   clear H1
   have H' := Aside0.mk H
   clear H
   go_enter Try.func45, Try.ntmps45
   go_wp2_with (first | ((with_reducible refine gate_callee (f := 51) rfl ?_); refine goesL_ (some 15) rfl rfl Try.func51 (by kernel_rfl) rfl #[.slice A0 l0.length c0] rfl ar_ ?_; (with_reducible refine (veils_read.calls k (fun k_ => k_ < w.heap.size) _ _ l0 t166 true _ ?side1 A2.out).mono ?_); (case side1 => exact Kd.V_mk HC0.out (Kd.F_below (Kd.C_F (Kd.heap_slice 3 (Kd.heap_int .i64)) HR0.out) (bel_))); rintro e w4 ⟨v167, rfl, ho0, hb⟩; refine ⟨_, rfl, ?_⟩; have n0_ := Aside0.mk (Kd.V_lower (Kd.V_mono (ok' := fun k_ => True) ho0 (fun k_ hk_ => trivial)) (below_size (bel_))); have n1_ := Aside0.mk (below_step (bel_) hb); clear HB; have HO168 := n0_; have HB := n1_; clear n0_ n1_; (try clear hb); (try clear hb2); (try clear hk); (try clear hi); (try clear ho0); obtain ⟨Ao5, co5, eo5⟩ := Kd.V_slice HO168.out; subst eo5))
   go_loopg [7, 8, 22] k (fun kq v7 v8 v22 w' => ∃ (x7_1 : Int) (x8_1 : Int) (x22_1 : Int), v7 = .int .i64 x7_1 ∧ v8 = .int .i64 x8_1 ∧ v22 = .int .i64 x22_1 ∧ Aside0 (veils_Minus.l0 kq t166 x7_1 x8_1 t166 (t166.length : Int) x22_1 = some (r1, r2, r3)) ∧ Aside0 (kq ≤ k) ∧ Aside0 (Kd.V (Kd.slice 3 (Kd.int .i64)) 28 w' w.heap.size (fun _ => True) (.slice Ao5 t166.length co5) t166) ∧ Aside0 (Kd.V (Kd.slice 3 (Kd.int .i64)) 28 w' w.heap.size (fun _ => True) (.slice Ao5 t166.length co5) t166) ∧ Aside0 (Below w.heap.size w w'))
   case atStart => exact ⟨(0), (0), (0), rf_, rf_, rf_, H', ⟨Nat.le_refl _⟩, ⟨nV_ HO168.out⟩, ⟨nV_ HO168.out⟩, ⟨bel_⟩⟩
   case round =>
    clear H'
    try clear p2
    try clear c3
    try clear c4
    try clear c5
    obtain ⟨x7_1, x8_1, x22_1, rfl, rfl, rfl, HA, HK1, HO_5, HO_20, HB⟩ := hrel
    cases gk with
    | zero => exact absurd HA.out (by simp [veils_Minus.l0])
    | succ k1 =>
     have H := HA.out
     clear HA
     simp only [veils_Minus.l0] at H
     by_cases c6 : x22_1 < (t166.length : Int)
     · rw [if_pos c6] at H
       have c6b0 : decide (x22_1 < (t166.length : Int)) = true := decide_eq_true c6
       clear c6
       by_cases c7 : 0 ≤ x22_1
       · rw [if_pos c7] at H
         have c7b0 : decide (0 ≤ x22_1) = true := decide_eq_true c7
         clear c7
         by_cases c8 : x22_1 < (t166.length : Int)
         · rw [if_pos c8] at H
           have c8b0 : decide (x22_1 < (t166.length : Int)) = true := decide_eq_true c8
           clear c8
           have H' := Aside0.mk H
           clear H
           have p170 : 0 ≤ (x22_1 : Int) := od_
           have q170 : x22_1 < (t166.length : Int) := od_
           obtain ⟨ad170, A170_0, c170_0, e170, hx170_0, hl170_0, hi170_0⟩ := at_L1 (Kd.V_reads' HO_20.out).2.2 x22_1 p170 q170
           cases e170
           obtain ⟨ce170, hce170, hMe170, hcc170⟩ := Kd.V_get HO_20.out [] x22_1 p170 (by first | exact q170 | exact od_ | (have e_ := (Kd.V_reads' HO_20.out).1; omega))
           obtain ⟨ua170_0, uc170_0, rfl, ul170_0, ge170_0⟩ := Kd.FK_slice_open hMe170
           have hv170_0 := hcc170 0 _ rfl
           rw [Nat.add_zero, show ((Kd.slice 3 (Kd.int .i64))).sz = 1 from rfl, Nat.mul_one] at hv170_0
           replace hv170_0 := Option.some.inj (hv170_0.symm.trans hx170_0)
           injection hv170_0 with hva_ hvn_ hvc_
           rw [hva_] at ge170_0
           rw [hvc_] at ul170_0
           have HL170_0 := Aside0.mk (show Kd.V (Kd.int .i64) 3 _ w.heap.size _ _ (rd_L1 t166 x22_1) from Kd.V_mk ul170_0 ge170_0)
           clear hva_ hvn_ hvc_ ge170_0 ul170_0
           clear hcc170 hce170
           have HR170_0 := Aside0.mk hi170_0
           have HC170_0 := Aside0.mk hl170_0
           clear hi170_0 hl170_0
           replace p170 := eq_true p170
           replace q170 := eq_true q170
           go_wp2
           go_loopg [7, 8, 29] k1 (fun kq v7 v8 v29 w' => ∃ (x7_2 : Int) (x8_2 : Int) (x29_2 : Int), v7 = .int .i64 x7_2 ∧ v8 = .int .i64 x8_2 ∧ v29 = .int .i64 x29_2 ∧ Aside0 (veils_Minus.l1 kq t166 x7_2 x8_2 x22_1 t166 (t166.length : Int) x22_1 (rd_L1 t166 x22_1) ((rd_L1 t166 x22_1).length : Int) x29_2 = some (r1, r2, r3)) ∧ Aside0 (kq ≤ k1) ∧ Aside0 (Kd.V (Kd.slice 3 (Kd.int .i64)) 28 w' w.heap.size (fun _ => True) (.slice (some ad170) t166.length co5) t166) ∧ Aside0 (Kd.V (Kd.slice 3 (Kd.int .i64)) 28 w' w.heap.size (fun _ => True) (.slice (some ad170) t166.length co5) t166) ∧ Aside0 (Kd.C (Kd.int .i64) w' A170_0 (rd_L1 t166 x22_1).length (rd_L1 t166 x22_1)) ∧ Aside0 (Below w.heap.size w w'))
           case atStart => exact ⟨(x7_1), (x8_1), (0), rf_, rf_, rf_, H', ⟨Nat.le_refl _⟩, ⟨nV_ HO_5.out⟩, ⟨nV_ HO_20.out⟩, ⟨by repeat (first | (with_reducible exact HR170_0.out) | (with_reducible refine Kd.C_alloc ?_ _) | (with_reducible refine Kd.C_drewN ?_ _) | (with_reducible refine Kd.C_drew ?_) | exact HR170_0.out)⟩, ⟨bel_⟩⟩
           case round =>
            clear H'
            try clear c1
            try clear p1
            try clear q1
            try clear hx1
            try clear p2
            try clear c3
            try clear c4
            try clear c5
            try clear c6
            try clear c6b0
            try clear c7
            try clear c7b0
            try clear c8
            try clear c8b0
            try clear hx170_0
            try clear p170
            try clear p2
            try clear q170
            obtain ⟨x7_2, x8_2, x29_2, rfl, rfl, rfl, HA, HK2, HO_5, HO_20, HR170_0, HB⟩ := hrel
            cases gk with
            | zero => exact absurd HA.out (by simp [veils_Minus.l1])
            | succ k2 =>
             have H := HA.out
             clear HA
             simp only [veils_Minus.l1] at H
             by_cases c9 : x29_2 < ((rd_L1 t166 x22_1).length : Int)
             · rw [if_pos c9] at H
               have c9b0 : decide (x29_2 < ((rd_L1 t166 x22_1).length : Int)) = true := decide_eq_true c9
               clear c9
               by_cases c10 : 0 ≤ x29_2
               · rw [if_pos c10] at H
                 have c10b0 : decide (0 ≤ x29_2) = true := decide_eq_true c10
                 clear c10
                 by_cases c11 : x29_2 < ((rd_L1 t166 x22_1).length : Int)
                 · rw [if_pos c11] at H
                   have c11b0 : decide (x29_2 < ((rd_L1 t166 x22_1).length : Int)) = true := decide_eq_true c11
                   clear c11
                   by_cases c12 : (rd (rd_L1 t166 x22_1) x29_2) < 0
                   · rw [if_pos c12] at H
                     have c12b0 : decide ((rd (rd_L1 t166 x22_1) x29_2) < 0) = true := decide_eq_true c12
                     clear c12
                     replace H := Option.bind_eq_some_iff.mp H
                     obtain ⟨t172, A130, H⟩ := H
                     replace H : ((veils_veil_sum.f k2 t166 (wrap64 (x22_1 + 1)) x29_2).bind fun t173 => (veils_Minus.l1 k2 t166 (wrap64 (x7_2 + 1)) (wrap64 (x8_2 + (wrap64 ((rd (rd_L1 t166 x22_1) x29_2) * (wrap64 (t172 - t173)))))) x22_1 t166 (t166.length : Int) x22_1 (rd_L1 t166 x22_1) ((rd_L1 t166 x22_1).length : Int) (wrap64 (x29_2 + 1)))) = some (r1, r2, r3) := H
                     have A13 := Aside0.mk A130
                     clear A130
                     replace H := Option.bind_eq_some_iff.mp H
                     obtain ⟨t173, A140, H⟩ := H
                     replace H : (veils_Minus.l1 k2 t166 (wrap64 (x7_2 + 1)) (wrap64 (x8_2 + (wrap64 ((rd (rd_L1 t166 x22_1) x29_2) * (wrap64 (t172 - t173)))))) x22_1 t166 (t166.length : Int) x22_1 (rd_L1 t166 x22_1) ((rd_L1 t166 x22_1).length : Int) (wrap64 (x29_2 + 1))) = some (r1, r2, r3) := H
                     have A14 := Aside0.mk A140
                     clear A140
                     have H' := Aside0.mk H
                     clear H
                     obtain ⟨ad171, e171, hx171_0, p171, q171⟩ := ai_ HR170_0.out x29_2
                     cases e171
                     try replace hx171_0 := (HB.out.cell (World.block_lt_of_cell? w _ hx171_0)).trans hx171_0
                     go_wp2_with (first | ((with_reducible refine gate_callee (f := 54) rfl ?_); refine goesL_ (some 44) rfl rfl Try.func54 (by kernel_rfl) rfl #[.slice (some ad170) t166.length co5, .int .i64 (t166.length : Int), .int .i64 x29_2] rfl ar_ ?_; (with_reducible refine (veils_veil_sum.calls k2 _ _ t166 (t166.length : Int) x29_2 t172 _ ?side1 ?side2 A13.out).mono ?_); (case side1 => repeat (first | exact (Kd.V_reads' HO_5.out).2.2 | (with_reducible refine Kd.C_alloc ?_ _) | (with_reducible refine Kd.C_drewN ?_ _) | (with_reducible refine Kd.C_drew ?_))); (case side2 => exact (Kd.V_reads' HO_5.out).2.1); rintro e w' ⟨rfl, ⟨nd, rfl⟩⟩; refine ⟨_, rfl, ?_⟩) | ((with_reducible refine gate_callee (f := 54) rfl ?_); refine goesL_ (some 49) rfl rfl Try.func54 (by kernel_rfl) rfl #[.slice (some ad170) t166.length co5, .int .i64 (wrap64 (x22_1 + 1)), .int .i64 x29_2] rfl ar_ ?_; (with_reducible refine (veils_veil_sum.calls k2 _ _ t166 (wrap64 (x22_1 + 1)) x29_2 t173 _ ?side1 ?side2 A14.out).mono ?_); (case side1 => repeat (first | exact (Kd.V_reads' HO_5.out).2.2 | (with_reducible refine Kd.C_alloc ?_ _) | (with_reducible refine Kd.C_drewN ?_ _) | (with_reducible refine Kd.C_drew ?_))); (case side2 => exact (Kd.V_reads' HO_5.out).2.1); rintro e w' ⟨rfl, ⟨nd, rfl⟩⟩; refine ⟨_, rfl, ?_⟩))
                     go_roundg k2
                     case measure => have := HK1.out; have := HK2.out; omega
                     case rel => exact ⟨(wrap64 (x7_2 + 1)), (wrap64 (x8_2 + (wrap64 ((rd (rd_L1 t166 x22_1) x29_2) * (wrap64 (t172 - t173)))))), (wrap64 (x29_2 + 1)), rf_, rf_, rf_, H', ⟨by have := HK1.out; have := HK2.out; omega⟩, ⟨nV_ HO_5.out⟩, ⟨nV_ HO_20.out⟩, ⟨by repeat (first | (with_reducible exact HR170_0.out) | (with_reducible refine Kd.C_alloc ?_ _) | (with_reducible refine Kd.C_drewN ?_ _) | (with_reducible refine Kd.C_drew ?_) | exact HR170_0.out)⟩, ⟨bel_⟩⟩
                   · rw [if_neg c12] at H
                     have c12b0 : decide ((rd (rd_L1 t166 x22_1) x29_2) < 0) = false := decide_eq_false c12
                     clear c12
                     replace H := Option.bind_eq_some_iff.mp H
                     obtain ⟨t174, A150, H⟩ := H
                     replace H : ((veils_veil_sum.f k2 t166 (wrap64 (x22_1 + 1)) x29_2).bind fun t175 => (veils_Minus.l1 k2 t166 x7_2 (wrap64 (x8_2 + (wrap64 ((rd (rd_L1 t166 x22_1) x29_2) * (wrap64 (t174 - t175)))))) x22_1 t166 (t166.length : Int) x22_1 (rd_L1 t166 x22_1) ((rd_L1 t166 x22_1).length : Int) (wrap64 (x29_2 + 1)))) = some (r1, r2, r3) := H
                     have A15 := Aside0.mk A150
                     clear A150
                     replace H := Option.bind_eq_some_iff.mp H
                     obtain ⟨t175, A160, H⟩ := H
                     replace H : (veils_Minus.l1 k2 t166 x7_2 (wrap64 (x8_2 + (wrap64 ((rd (rd_L1 t166 x22_1) x29_2) * (wrap64 (t174 - t175)))))) x22_1 t166 (t166.length : Int) x22_1 (rd_L1 t166 x22_1) ((rd_L1 t166 x22_1).length : Int) (wrap64 (x29_2 + 1))) = some (r1, r2, r3) := H
                     have A16 := Aside0.mk A160
                     clear A160
                     have H' := Aside0.mk H
                     clear H
                     obtain ⟨ad171, e171, hx171_0, p171, q171⟩ := ai_ HR170_0.out x29_2
                     cases e171
                     try replace hx171_0 := (HB.out.cell (World.block_lt_of_cell? w _ hx171_0)).trans hx171_0
                     go_wp2_with (first | ((with_reducible refine gate_callee (f := 54) rfl ?_); refine goesL_ (some 44) rfl rfl Try.func54 (by kernel_rfl) rfl #[.slice (some ad170) t166.length co5, .int .i64 (t166.length : Int), .int .i64 x29_2] rfl ar_ ?_; (with_reducible refine (veils_veil_sum.calls k2 _ _ t166 (t166.length : Int) x29_2 t174 _ ?side1 ?side2 A15.out).mono ?_); (case side1 => repeat (first | exact (Kd.V_reads' HO_5.out).2.2 | (with_reducible refine Kd.C_alloc ?_ _) | (with_reducible refine Kd.C_drewN ?_ _) | (with_reducible refine Kd.C_drew ?_))); (case side2 => exact (Kd.V_reads' HO_5.out).2.1); rintro e w' ⟨rfl, ⟨nd, rfl⟩⟩; refine ⟨_, rfl, ?_⟩) | ((with_reducible refine gate_callee (f := 54) rfl ?_); refine goesL_ (some 49) rfl rfl Try.func54 (by kernel_rfl) rfl #[.slice (some ad170) t166.length co5, .int .i64 (wrap64 (x22_1 + 1)), .int .i64 x29_2] rfl ar_ ?_; (with_reducible refine (veils_veil_sum.calls k2 _ _ t166 (wrap64 (x22_1 + 1)) x29_2 t175 _ ?side1 ?side2 A16.out).mono ?_); (case side1 => repeat (first | exact (Kd.V_reads' HO_5.out).2.2 | (with_reducible refine Kd.C_alloc ?_ _) | (with_reducible refine Kd.C_drewN ?_ _) | (with_reducible refine Kd.C_drew ?_))); (case side2 => exact (Kd.V_reads' HO_5.out).2.1); rintro e w' ⟨rfl, ⟨nd, rfl⟩⟩; refine ⟨_, rfl, ?_⟩))
                     go_roundg k2
                     case measure => have := HK1.out; have := HK2.out; omega
                     case rel => exact ⟨(x7_2), (wrap64 (x8_2 + (wrap64 ((rd (rd_L1 t166 x22_1) x29_2) * (wrap64 (t174 - t175)))))), (wrap64 (x29_2 + 1)), rf_, rf_, rf_, H', ⟨by have := HK1.out; have := HK2.out; omega⟩, ⟨nV_ HO_5.out⟩, ⟨nV_ HO_20.out⟩, ⟨by repeat (first | (with_reducible exact HR170_0.out) | (with_reducible refine Kd.C_alloc ?_ _) | (with_reducible refine Kd.C_drewN ?_ _) | (with_reducible refine Kd.C_drew ?_) | exact HR170_0.out)⟩, ⟨bel_⟩⟩
                 · rw [if_neg c11] at H
                   exact absurd H (by simp)
               · rw [if_neg c10] at H
                 exact absurd H (by simp)
             · rw [if_neg c9] at H
               have c9b0 : decide (x29_2 < ((rd_L1 t166 x22_1).length : Int)) = false := decide_eq_false c9
               clear c9
               have H' := Aside0.mk H
               clear H
               go_wp2
               go_roundg k2
               case measure => have := HK1.out; have := HK2.out; omega
               case rel => exact ⟨(x7_2), (x8_2), (wrap64 (x22_1 + 1)), rf_, rf_, rf_, H', ⟨by have := HK1.out; have := HK2.out; omega⟩, ⟨nV_ HO_5.out⟩, ⟨nV_ HO_20.out⟩, ⟨bel_⟩⟩
         · rw [if_neg c8] at H
           exact absurd H (by simp)
       · rw [if_neg c7] at H
         exact absurd H (by simp)
     · rw [if_neg c6] at H
       have c6b0 : decide (x22_1 < (t166.length : Int)) = false := decide_eq_false c6
       clear c6
       simp only [Option.some.injEq, Prod.mk.injEq] at H
       obtain ⟨rfl, rfl, rfl⟩ := H
       go_wp2
       go_ret3
       exact ⟨er_, bel_⟩
 · replace c3 := Bool.eq_false_iff.mpr c3
   subst c3
   have H1 : (some (0, 0, 2)) = some (r1, r2, r3) := by rw [if_neg (show ¬ (false = true) by decide)] at H; exact H
   clear H
   have H := H1
   clear H1
   simp only [Option.some.injEq, Prod.mk.injEq] at H
   obtain ⟨rfl, rfl, rfl⟩ := H
   go_enter Try.func45, Try.ntmps45
   go_wp2_with (first | ((with_reducible refine gate_callee (f := 51) rfl ?_); refine goesL_ (some 15) rfl rfl Try.func51 (by kernel_rfl) rfl #[.slice A0 l0.length c0] rfl ar_ ?_; (with_reducible refine (veils_read.calls k (fun k_ => k_ < w.heap.size) _ _ l0 t166 false _ ?side1 A2.out).mono ?_); (case side1 => exact Kd.V_mk HC0.out (Kd.F_below (Kd.C_F (Kd.heap_slice 3 (Kd.heap_int .i64)) HR0.out) (bel_))); rintro e w17 ⟨v167, rfl, ho0, hb⟩; refine ⟨_, rfl, ?_⟩; have n0_ := Aside0.mk (Kd.V_lower (Kd.V_mono (ok' := fun k_ => True) ho0 (fun k_ hk_ => trivial)) (below_size (bel_))); have n1_ := Aside0.mk (below_step (bel_) hb); clear HB; have HO168 := n0_; have HB := n1_; clear n0_ n1_; (try clear hb); (try clear hb2); (try clear hk); (try clear hi); (try clear ho0)))
   go_ret3
   exact ⟨er_, bel_⟩

end Go.Proofs.Ytdinepghommchaa.V
