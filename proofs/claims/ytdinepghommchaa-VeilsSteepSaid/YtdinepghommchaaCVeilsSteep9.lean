/- The walks, their words and the pure laws under the claim of VeilsSteep, part: Gf, Vf77, Vf76, Vf65, Ve0, Vf66, Vf78, Vf67, Vf50, Vf22, Gq, Vf48, Vf47, Vf17, Vf26, Vf27, Gp, Vf21, Ge, Gw. -/
import Derived.Test.YtdinepghommchaaCVeilsSteep1
import Derived.Test.YtdinepghommchaaCVeilsSteep2
import Derived.Test.YtdinepghommchaaCVeilsSteep3
import Derived.Test.YtdinepghommchaaCVeilsSteep6
/- The search of all veils is a fold over the list of the veils that it finds. -/
namespace Go.Proofs.Ytdinepghommchaa.V
open Go.RowKit Go.Proofs.YtdinepghommchaaW.PrintWords Go.Proofs.YtdinepghommchaaW.PrintLast Go.Proofs.YtdinepghommchaaW.PrintMore
/-- What is found is put at the end of a list. -/
def foundL (t : List (List Int)) (out : List (List (List Int))) : Option (List (List (List Int))) := some (out ++ [t])
def foldO {α : Type} (found : List (List Int) → α → Option α) : List (List (List Int)) → α → Option α
 | [], a => some a
 | t :: L, a => (found t a).bind (foldO found L)
/-- What a search with the list tells of the same search with another function. -/
def Tells {α : Type} (found : List (List Int) → α → Option α) (o0 : List (List (List Int)) → Option (VS × List (List (List Int)))) (o : α → Option (VS × α)) : Prop :=
 ∀ out s' out', o0 out = some (s', out') → ∃ L, out' = out ++ L ∧ ∀ a, o a = (foldO found L a).map (fun b => (s', b))
end Go.Proofs.Ytdinepghommchaa.V

-- Written by a program of this session over the kit's printer: wip/gp.py.
namespace Go.Proofs.Ytdinepghommchaa.V
open Go.RowKit Go.Proofs.YtdinepghommchaaW.PrintWords Go.Proofs.YtdinepghommchaaW.PrintLast Go.Proofs.YtdinepghommchaaW.PrintMore
attribute [local go_sem] max2_int min2_int max_two min_two max_three min_three max_four min_four   -- for this text's walks alone
set_option linter.unusedVariables false
set_option linter.unusedSimpArgs false

/-! ### veils_heights_thread: function 77 -/
def veils_heights_thread.f (l0 : List (List Int)) (a1_0 : Int) (a1_1 : Int) (a1_2 : Int) : Option (Bool) := if a1_2 = 0 then (if 0 ≤ (wrap64 (a1_0 - 1)) then (if (wrap64 (a1_0 - 1)) < (l0.length : Int) then (if 0 ≤ a1_1 then (if a1_1 < ((rd_L1 l0 (wrap64 (a1_0 - 1))).length : Int) then (if 0 ≤ (mx (wrap64 ((wrap64 (a1_0 - 1)) - 1)) 0) then (if (mx (wrap64 ((wrap64 (a1_0 - 1)) - 1)) 0) < (l0.length : Int) then (if a1_1 < ((rd_L1 l0 (mx (wrap64 ((wrap64 (a1_0 - 1)) - 1)) 0)).length : Int) then (if 0 ≤ (mx (wrap64 (a1_1 - 1)) 0) then (if (mx (wrap64 (a1_1 - 1)) 0) < ((rd_L1 l0 (wrap64 (a1_0 - 1))).length : Int) then (some (((wrap64 ((rd (rd_L1 l0 (wrap64 (a1_0 - 1))) a1_1) - (rd (rd_L1 l0 (wrap64 (a1_0 - 1))) (mx (wrap64 (a1_1 - 1)) 0)))) == 1) == ((Int.tmod (wrap64 ((wrap64 (a1_0 - 1)) + a1_1)) 2) == 1))) else (none)) else (none)) else (none)) else (none)) else (none)) else (none)) else (none)) else (none)) else (none)) else (if a1_2 = 3 then (if 0 ≤ a1_0 then (if a1_0 < (l0.length : Int) then (if 0 ≤ (wrap64 (a1_1 - 1)) then (if (wrap64 (a1_1 - 1)) < ((rd_L1 l0 a1_0).length : Int) then (if 0 ≤ (mx (wrap64 (a1_0 - 1)) 0) then (if (mx (wrap64 (a1_0 - 1)) 0) < (l0.length : Int) then (if (wrap64 (a1_1 - 1)) < ((rd_L1 l0 (mx (wrap64 (a1_0 - 1)) 0)).length : Int) then (if a1_2 = 2 then (if 0 ≤ (mx (wrap64 ((wrap64 (a1_1 - 1)) - 1)) 0) then (if (mx (wrap64 ((wrap64 (a1_1 - 1)) - 1)) 0) < ((rd_L1 l0 a1_0).length : Int) then (some (((wrap64 ((rd (rd_L1 l0 a1_0) (wrap64 (a1_1 - 1))) - (rd (rd_L1 l0 a1_0) (mx (wrap64 ((wrap64 (a1_1 - 1)) - 1)) 0)))) == 1) == ((Int.tmod (wrap64 (a1_0 + (wrap64 (a1_1 - 1)))) 2) == 1))) else (none)) else (none)) else (some (((wrap64 ((rd (rd_L1 l0 a1_0) (wrap64 (a1_1 - 1))) - (rd (rd_L1 l0 (mx (wrap64 (a1_0 - 1)) 0)) (wrap64 (a1_1 - 1))))) == 1) == ((Int.tmod (wrap64 (a1_0 + (wrap64 (a1_1 - 1)))) 2) == 0)))) else (none)) else (none)) else (none)) else (none)) else (none)) else (none)) else (none)) else (if 0 ≤ a1_0 then (if a1_0 < (l0.length : Int) then (if 0 ≤ a1_1 then (if a1_1 < ((rd_L1 l0 a1_0).length : Int) then (if 0 ≤ (mx (wrap64 (a1_0 - 1)) 0) then (if (mx (wrap64 (a1_0 - 1)) 0) < (l0.length : Int) then (if a1_1 < ((rd_L1 l0 (mx (wrap64 (a1_0 - 1)) 0)).length : Int) then (if a1_2 = 2 then (if 0 ≤ (mx (wrap64 (a1_1 - 1)) 0) then (if (mx (wrap64 (a1_1 - 1)) 0) < ((rd_L1 l0 a1_0).length : Int) then (some (((wrap64 ((rd (rd_L1 l0 a1_0) a1_1) - (rd (rd_L1 l0 a1_0) (mx (wrap64 (a1_1 - 1)) 0)))) == 1) == ((Int.tmod (wrap64 (a1_0 + a1_1)) 2) == 1))) else (none)) else (none)) else (some (((wrap64 ((rd (rd_L1 l0 a1_0) a1_1) - (rd (rd_L1 l0 (mx (wrap64 (a1_0 - 1)) 0)) a1_1))) == 1) == ((Int.tmod (wrap64 (a1_0 + a1_1)) 2) == 0)))) else (none)) else (none)) else (none)) else (none)) else (none)) else (none)) else (none)))
set_option maxHeartbeats 8000000 in
set_option maxRecDepth 100000 in
theorem veils_heights_thread.calls (A0 : Option Addr) (c0 : Nat) (l0 : List (List Int)) (a1_0 : Int) (a1_1 : Int) (a1_2 : Int) (r : Bool) (w : World) (hr0 : Kd.C (Kd.slice 3 (Kd.int .i64)) w A0 l0.length l0) (hc0 : l0.length ≤ c0) (h : veils_heights_thread.f l0 a1_0 a1_1 a1_2 = some r) :
 Calls Try.prog 77 #[.slice A0 l0.length c0, .agg #[.int .i64 a1_0, .int .i64 a1_1, .int .i64 a1_2]] w fun e w' => e = .returned (.bool r) ∧ Below w.heap.size w w' := by
 have hu73 := Try.underlying73
 have HR0 := Aside0.mk hr0
 have HC0 := Aside0.mk hc0
 clear hr0 hc0
 have HB := Aside0.mk (Below.refl w.heap.size w)
 have H : (if a1_2 = 0 then (if 0 ≤ (wrap64 (a1_0 - 1)) then (if (wrap64 (a1_0 - 1)) < (l0.length : Int) then (if 0 ≤ a1_1 then (if a1_1 < ((rd_L1 l0 (wrap64 (a1_0 - 1))).length : Int) then (if 0 ≤ (mx (wrap64 ((wrap64 (a1_0 - 1)) - 1)) 0) then (if (mx (wrap64 ((wrap64 (a1_0 - 1)) - 1)) 0) < (l0.length : Int) then (if a1_1 < ((rd_L1 l0 (mx (wrap64 ((wrap64 (a1_0 - 1)) - 1)) 0)).length : Int) then (if 0 ≤ (mx (wrap64 (a1_1 - 1)) 0) then (if (mx (wrap64 (a1_1 - 1)) 0) < ((rd_L1 l0 (wrap64 (a1_0 - 1))).length : Int) then (some (((wrap64 ((rd (rd_L1 l0 (wrap64 (a1_0 - 1))) a1_1) - (rd (rd_L1 l0 (wrap64 (a1_0 - 1))) (mx (wrap64 (a1_1 - 1)) 0)))) == 1) == ((Int.tmod (wrap64 ((wrap64 (a1_0 - 1)) + a1_1)) 2) == 1))) else (none)) else (none)) else (none)) else (none)) else (none)) else (none)) else (none)) else (none)) else (none)) else (if a1_2 = 3 then (if 0 ≤ a1_0 then (if a1_0 < (l0.length : Int) then (if 0 ≤ (wrap64 (a1_1 - 1)) then (if (wrap64 (a1_1 - 1)) < ((rd_L1 l0 a1_0).length : Int) then (if 0 ≤ (mx (wrap64 (a1_0 - 1)) 0) then (if (mx (wrap64 (a1_0 - 1)) 0) < (l0.length : Int) then (if (wrap64 (a1_1 - 1)) < ((rd_L1 l0 (mx (wrap64 (a1_0 - 1)) 0)).length : Int) then (if a1_2 = 2 then (if 0 ≤ (mx (wrap64 ((wrap64 (a1_1 - 1)) - 1)) 0) then (if (mx (wrap64 ((wrap64 (a1_1 - 1)) - 1)) 0) < ((rd_L1 l0 a1_0).length : Int) then (some (((wrap64 ((rd (rd_L1 l0 a1_0) (wrap64 (a1_1 - 1))) - (rd (rd_L1 l0 a1_0) (mx (wrap64 ((wrap64 (a1_1 - 1)) - 1)) 0)))) == 1) == ((Int.tmod (wrap64 (a1_0 + (wrap64 (a1_1 - 1)))) 2) == 1))) else (none)) else (none)) else (some (((wrap64 ((rd (rd_L1 l0 a1_0) (wrap64 (a1_1 - 1))) - (rd (rd_L1 l0 (mx (wrap64 (a1_0 - 1)) 0)) (wrap64 (a1_1 - 1))))) == 1) == ((Int.tmod (wrap64 (a1_0 + (wrap64 (a1_1 - 1)))) 2) == 0)))) else (none)) else (none)) else (none)) else (none)) else (none)) else (none)) else (none)) else (if 0 ≤ a1_0 then (if a1_0 < (l0.length : Int) then (if 0 ≤ a1_1 then (if a1_1 < ((rd_L1 l0 a1_0).length : Int) then (if 0 ≤ (mx (wrap64 (a1_0 - 1)) 0) then (if (mx (wrap64 (a1_0 - 1)) 0) < (l0.length : Int) then (if a1_1 < ((rd_L1 l0 (mx (wrap64 (a1_0 - 1)) 0)).length : Int) then (if a1_2 = 2 then (if 0 ≤ (mx (wrap64 (a1_1 - 1)) 0) then (if (mx (wrap64 (a1_1 - 1)) 0) < ((rd_L1 l0 a1_0).length : Int) then (some (((wrap64 ((rd (rd_L1 l0 a1_0) a1_1) - (rd (rd_L1 l0 a1_0) (mx (wrap64 (a1_1 - 1)) 0)))) == 1) == ((Int.tmod (wrap64 (a1_0 + a1_1)) 2) == 1))) else (none)) else (none)) else (some (((wrap64 ((rd (rd_L1 l0 a1_0) a1_1) - (rd (rd_L1 l0 (mx (wrap64 (a1_0 - 1)) 0)) a1_1))) == 1) == ((Int.tmod (wrap64 (a1_0 + a1_1)) 2) == 0)))) else (none)) else (none)) else (none)) else (none)) else (none)) else (none)) else (none)))) = some r := h
 clear h
 by_cases c3 : a1_2 = 0
 · rw [if_pos c3] at H
   have c3b0 : (a1_2 == 0) = true := beq_iff_eq.mpr c3
   have c3b1 : (a1_2 != 0) = false := bne_eq_false_iff_eq.mpr c3
   clear c3
   obtain ⟨ji4, hji4⟩ : ∃ j_ : Int, (wrap64 (a1_0 - 1)) = j_ := ⟨_, rfl⟩
   replace H : (if 0 ≤ (ji4) then (if (ji4) < (l0.length : Int) then (if 0 ≤ a1_1 then (if a1_1 < ((rd_L1 l0 (ji4)).length : Int) then (if 0 ≤ (mx (wrap64 ((ji4) - 1)) 0) then (if (mx (wrap64 ((ji4) - 1)) 0) < (l0.length : Int) then (if a1_1 < ((rd_L1 l0 (mx (wrap64 ((ji4) - 1)) 0)).length : Int) then (if 0 ≤ (mx (wrap64 (a1_1 - 1)) 0) then (if (mx (wrap64 (a1_1 - 1)) 0) < ((rd_L1 l0 (ji4)).length : Int) then (some (((wrap64 ((rd (rd_L1 l0 (ji4)) a1_1) - (rd (rd_L1 l0 (ji4)) (mx (wrap64 (a1_1 - 1)) 0)))) == 1) == ((Int.tmod (wrap64 ((ji4) + a1_1)) 2) == 1))) else (none)) else (none)) else (none)) else (none)) else (none)) else (none)) else (none)) else (none)) else (none)) = some r := by first | (rw [hji4] at H; exact H) | (simp only [hji4] at H ⊢; exact H)
   have hji4w : (IntKind.i64.wrap (a1_0 - 1)) = ji4 := (i64_w _).trans hji4
   by_cases c5 : 0 ≤ (ji4)
   · rw [if_pos c5] at H
     have c5b0 : decide (0 ≤ (ji4)) = true := decide_eq_true c5
     clear c5
     by_cases c6 : (ji4) < (l0.length : Int)
     · rw [if_pos c6] at H
       have c6b0 : decide ((ji4) < (l0.length : Int)) = true := decide_eq_true c6
       clear c6
       by_cases c7 : 0 ≤ a1_1
       · rw [if_pos c7] at H
         have c7b0 : decide (0 ≤ a1_1) = true := decide_eq_true c7
         clear c7
         by_cases c8 : a1_1 < ((rd_L1 l0 (ji4)).length : Int)
         · rw [if_pos c8] at H
           have c8b0 : decide (a1_1 < ((rd_L1 l0 (ji4)).length : Int)) = true := decide_eq_true c8
           clear c8
           obtain ⟨ji9, hji9⟩ : ∃ j_ : Int, (mx (wrap64 ((ji4) - 1)) 0) = j_ := ⟨_, rfl⟩
           replace H : (if 0 ≤ (ji9) then (if (ji9) < (l0.length : Int) then (if a1_1 < ((rd_L1 l0 (ji9)).length : Int) then (if 0 ≤ (mx (wrap64 (a1_1 - 1)) 0) then (if (mx (wrap64 (a1_1 - 1)) 0) < ((rd_L1 l0 (ji4)).length : Int) then (some (((wrap64 ((rd (rd_L1 l0 (ji4)) a1_1) - (rd (rd_L1 l0 (ji4)) (mx (wrap64 (a1_1 - 1)) 0)))) == 1) == ((Int.tmod (wrap64 ((ji4) + a1_1)) 2) == 1))) else (none)) else (none)) else (none)) else (none)) else (none)) = some r := by first | (rw [hji9] at H; exact H) | (simp only [hji9] at H ⊢; exact H)
           have hji9_ : (if (wrap64 ((ji4) - 1)) < 0 then 0 else (wrap64 ((ji4) - 1))) = ji9 := hji9
           by_cases c10 : 0 ≤ (ji9)
           · rw [if_pos c10] at H
             have c10b0 : decide (0 ≤ (ji9)) = true := decide_eq_true c10
             clear c10
             by_cases c11 : (ji9) < (l0.length : Int)
             · rw [if_pos c11] at H
               have c11b0 : decide ((ji9) < (l0.length : Int)) = true := decide_eq_true c11
               clear c11
               by_cases c12 : a1_1 < ((rd_L1 l0 (ji9)).length : Int)
               · rw [if_pos c12] at H
                 have c12b0 : decide (a1_1 < ((rd_L1 l0 (ji9)).length : Int)) = true := decide_eq_true c12
                 clear c12
                 obtain ⟨ji13, hji13⟩ : ∃ j_ : Int, (mx (wrap64 (a1_1 - 1)) 0) = j_ := ⟨_, rfl⟩
                 replace H : (if 0 ≤ (ji13) then (if (ji13) < ((rd_L1 l0 (ji4)).length : Int) then (some (((wrap64 ((rd (rd_L1 l0 (ji4)) a1_1) - (rd (rd_L1 l0 (ji4)) (ji13)))) == 1) == ((Int.tmod (wrap64 ((ji4) + a1_1)) 2) == 1))) else (none)) else (none)) = some r := by first | (rw [hji13] at H; exact H) | (simp only [hji13] at H ⊢; exact H)
                 (try (have hji13l : 0 ≤ ji13 := by (rw [← hji13]; unfold mx; (repeat' split) <;> omega)))
                 (try (have hji13m : 0 ≤ ji13 := by omega))
                 have hji13_ : (if (wrap64 (a1_1 - 1)) < 0 then 0 else (wrap64 (a1_1 - 1))) = ji13 := hji13
                 by_cases c14 : 0 ≤ (ji13)
                 · rw [if_pos c14] at H
                   have c14b0 : decide (0 ≤ (ji13)) = true := decide_eq_true c14
                   clear c14
                   by_cases c15 : (ji13) < ((rd_L1 l0 (ji4)).length : Int)
                   · rw [if_pos c15] at H
                     have c15b0 : decide ((ji13) < ((rd_L1 l0 (ji4)).length : Int)) = true := decide_eq_true c15
                     clear c15
                     obtain rfl := Option.some.inj H
                     go_enter Try.func77, Try.ntmps77
                     go_wp2_with (first | ((with_reducible refine gate_dst (N := 3) rfl ?_); refine box_event ?hg (N := 3) ?hd (cs := #[.int .i64 a1_0, .int .i64 a1_1, .int .i64 a1_2]) (t := 73) ?hr ?_; (case hd => rfl); (case hg => rfl); (case hr => first | (go_simp; done) | (go_simp; rfl)); intro gb253 hg w16 hbox hb; have n0_ := Aside0.mk (below_step (bel_) hb); have n1_ := Aside0.mk (hbox); have n2_ := Aside0.mk ((by rw [hg]; exact (below_size (bel_)) : w.heap.size ≤ gb253)); have n3_ := Aside0.mk ((by rw [hg]; exact (below_size (bel_)) : w.heap.size ≤ gb253)); clear HB; have HB := n0_; have BK253 := n1_; have GW253 := n2_; have GE253 := n3_; clear n0_ n1_ n2_ n3_; clear hb hbox hg; have hcz17_0 : w16.cell? ⟨gb253, 0, none⟩ = some (.int .i64 a1_0) := (blk_cell BK253.out 0).trans rfl; have hcz17_1 : w16.cell? ⟨gb253, 1, none⟩ = some (.int .i64 a1_1) := (blk_cell BK253.out 1).trans rfl; have hcz17_2 : w16.cell? ⟨gb253, 2, none⟩ = some (.int .i64 a1_2) := (blk_cell BK253.out 2).trans rfl; have hfz17_0 := blk_frozen BK253.out 0; have hfz17_1 := blk_frozen BK253.out 1; have hfz17_2 := blk_frozen BK253.out 2; have p254 : 0 ≤ ((ji4) : Int) := od_; have q254 : (ji4) < (l0.length : Int) := od_; obtain ⟨ad254, A254_0, c254_0, e254, hx254_0, hl254_0, hi254_0⟩ := at_L1 HR0.out (ji4) p254 q254; cases e254; replace hx254_0 := (HB.out.cell (World.block_lt_of_cell? w _ hx254_0)).trans hx254_0; have HR254_0 := Aside0.mk hi254_0; have HC254_0 := Aside0.mk hl254_0; clear hi254_0 hl254_0; replace p254 := eq_true p254; replace q254 := eq_true q254; have p255 : 0 ≤ (a1_1 : Int) := od_; have q255 : a1_1 < ((rd_L1 l0 (ji4)).length : Int) := od_; obtain ⟨ad255, e255, hx255_0⟩ := Kd.at_int HR254_0.out a1_1 p255 q255; cases e255; replace hx255_0 := (HB.out.cell (World.block_lt_of_cell? w _ hx255_0)).trans hx255_0; replace p255 := eq_true p255; replace q255 := eq_true q255; have p256 : 0 ≤ ((ji9) : Int) := od_; have q256 : (ji9) < (l0.length : Int) := od_; obtain ⟨ad256, A256_0, c256_0, e256, hx256_0, hl256_0, hi256_0⟩ := at_L1 HR0.out (ji9) p256 q256; obtain rfl : ad254 = ad256 := (by injection e256); replace hx256_0 := (HB.out.cell (World.block_lt_of_cell? w _ hx256_0)).trans hx256_0; have HR256_0 := Aside0.mk hi256_0; have HC256_0 := Aside0.mk hl256_0; clear hi256_0 hl256_0; replace p256 := eq_true p256; replace q256 := eq_true q256; have p257 : 0 ≤ (a1_1 : Int) := od_; have q257 : a1_1 < ((rd_L1 l0 (ji9)).length : Int) := od_; obtain ⟨ad257, e257, hx257_0⟩ := Kd.at_int HR256_0.out a1_1 p257 q257; cases e257; replace hx257_0 := (HB.out.cell (World.block_lt_of_cell? w _ hx257_0)).trans hx257_0; replace p257 := eq_true p257; replace q257 := eq_true q257; have p258 : 0 ≤ ((ji4) : Int) := od_; have q258 : (ji4) < (l0.length : Int) := od_; obtain ⟨ad258, A258_0, c258_0, e258, hx258_0, hl258_0, hi258_0⟩ := at_L1 HR0.out (ji4) p258 q258; obtain rfl : ad254 = ad258 := (by injection e258); replace hx258_0 := (HB.out.cell (World.block_lt_of_cell? w _ hx258_0)).trans hx258_0; have HR258_0 := Aside0.mk hi258_0; have HC258_0 := Aside0.mk hl258_0; clear hi258_0 hl258_0; replace p258 := eq_true p258; replace q258 := eq_true q258; have ea_ := Option.some.inj (hx254_0.symm.trans hx258_0); injection ea_ with ea_ en_ ec_; subst ea_; subst ec_; clear en_; have p259 : 0 ≤ (a1_1 : Int) := od_; have q259 : a1_1 < ((rd_L1 l0 (ji4)).length : Int) := od_; obtain ⟨ad259, e259, hx259_0⟩ := Kd.at_int HR258_0.out a1_1 p259 q259; cases e259; replace hx259_0 := (HB.out.cell (World.block_lt_of_cell? w _ hx259_0)).trans hx259_0; replace p259 := eq_true p259; replace q259 := eq_true q259; have p260 : 0 ≤ ((ji4) : Int) := od_; have q260 : (ji4) < (l0.length : Int) := od_; obtain ⟨ad260, A260_0, c260_0, e260, hx260_0, hl260_0, hi260_0⟩ := at_L1 HR0.out (ji4) p260 q260; obtain rfl : ad254 = ad260 := (by injection e260); replace hx260_0 := (HB.out.cell (World.block_lt_of_cell? w _ hx260_0)).trans hx260_0; have HR260_0 := Aside0.mk hi260_0; have HC260_0 := Aside0.mk hl260_0; clear hi260_0 hl260_0; replace p260 := eq_true p260; replace q260 := eq_true q260; have ea_ := Option.some.inj (hx254_0.symm.trans hx260_0); injection ea_ with ea_ en_ ec_; subst ea_; subst ec_; clear en_; have p261 : 0 ≤ ((ji13) : Int) := od_; have q261 : (ji13) < ((rd_L1 l0 (ji4)).length : Int) := od_; obtain ⟨ad261, e261, hx261_0⟩ := Kd.at_int HR260_0.out (ji13) p261 q261; cases e261; replace hx261_0 := (HB.out.cell (World.block_lt_of_cell? w _ hx261_0)).trans hx261_0; replace p261 := eq_true p261; replace q261 := eq_true q261))
                     repeat (go_quiet (fail); try go_wp2)
                     go_ret
                     exact ⟨by first | rfl | (simp [errW_none, errW_some] <;> rfl) | (simp only [← hji4, ← hji9, ← hji13]; first | rfl | (simp [errW_none, errW_some] <;> rfl)) | (simp [*, errW_none, errW_some] <;> rfl), by repeat (first | (with_reducible first | exact HB.out | apply below_alloc | apply pw_below_drewN | apply below_drew1 | refine below_set ?_ GE253.out) | exact HB.out)⟩
                   · rw [if_neg c15] at H
                     exact absurd H (by simp)
                 · rw [if_neg c14] at H
                   exact absurd H (by simp)
               · rw [if_neg c12] at H
                 exact absurd H (by simp)
             · rw [if_neg c11] at H
               exact absurd H (by simp)
           · rw [if_neg c10] at H
             exact absurd H (by simp)
         · rw [if_neg c8] at H
           exact absurd H (by simp)
       · rw [if_neg c7] at H
         exact absurd H (by simp)
     · rw [if_neg c6] at H
       exact absurd H (by simp)
   · rw [if_neg c5] at H
     exact absurd H (by simp)
 · rw [if_neg c3] at H
   have c3b0 : (a1_2 == 0) = false := beq_eq_false_iff_ne.mpr c3
   have c3b1 : (a1_2 != 0) = true := bne_iff_ne.mpr c3
   by_cases c18 : a1_2 = 3
   · rw [if_pos c18] at H
     have c18b0 : (a1_2 == 3) = true := beq_iff_eq.mpr c18
     have c18b1 : (a1_2 != 3) = false := bne_eq_false_iff_eq.mpr c18
     clear c18
     by_cases c19 : 0 ≤ a1_0
     · rw [if_pos c19] at H
       have c19b0 : decide (0 ≤ a1_0) = true := decide_eq_true c19
       clear c19
       by_cases c20 : a1_0 < (l0.length : Int)
       · rw [if_pos c20] at H
         have c20b0 : decide (a1_0 < (l0.length : Int)) = true := decide_eq_true c20
         clear c20
         obtain ⟨ji21, hji21⟩ : ∃ j_ : Int, (wrap64 (a1_1 - 1)) = j_ := ⟨_, rfl⟩
         replace H : (if 0 ≤ (ji21) then (if (ji21) < ((rd_L1 l0 a1_0).length : Int) then (if 0 ≤ (mx (wrap64 (a1_0 - 1)) 0) then (if (mx (wrap64 (a1_0 - 1)) 0) < (l0.length : Int) then (if (ji21) < ((rd_L1 l0 (mx (wrap64 (a1_0 - 1)) 0)).length : Int) then (if a1_2 = 2 then (if 0 ≤ (mx (wrap64 ((ji21) - 1)) 0) then (if (mx (wrap64 ((ji21) - 1)) 0) < ((rd_L1 l0 a1_0).length : Int) then (some (((wrap64 ((rd (rd_L1 l0 a1_0) (ji21)) - (rd (rd_L1 l0 a1_0) (mx (wrap64 ((ji21) - 1)) 0)))) == 1) == ((Int.tmod (wrap64 (a1_0 + (ji21))) 2) == 1))) else (none)) else (none)) else (some (((wrap64 ((rd (rd_L1 l0 a1_0) (ji21)) - (rd (rd_L1 l0 (mx (wrap64 (a1_0 - 1)) 0)) (ji21)))) == 1) == ((Int.tmod (wrap64 (a1_0 + (ji21))) 2) == 0)))) else (none)) else (none)) else (none)) else (none)) else (none)) = some r := by first | (rw [hji21] at H; exact H) | (simp only [hji21] at H ⊢; exact H)
         have hji21w : (IntKind.i64.wrap (a1_1 - 1)) = ji21 := (i64_w _).trans hji21
         by_cases c22 : 0 ≤ (ji21)
         · rw [if_pos c22] at H
           have c22b0 : decide (0 ≤ (ji21)) = true := decide_eq_true c22
           clear c22
           by_cases c23 : (ji21) < ((rd_L1 l0 a1_0).length : Int)
           · rw [if_pos c23] at H
             have c23b0 : decide ((ji21) < ((rd_L1 l0 a1_0).length : Int)) = true := decide_eq_true c23
             clear c23
             obtain ⟨ji24, hji24⟩ : ∃ j_ : Int, (mx (wrap64 (a1_0 - 1)) 0) = j_ := ⟨_, rfl⟩
             replace H : (if 0 ≤ (ji24) then (if (ji24) < (l0.length : Int) then (if (ji21) < ((rd_L1 l0 (ji24)).length : Int) then (if a1_2 = 2 then (if 0 ≤ (mx (wrap64 ((ji21) - 1)) 0) then (if (mx (wrap64 ((ji21) - 1)) 0) < ((rd_L1 l0 a1_0).length : Int) then (some (((wrap64 ((rd (rd_L1 l0 a1_0) (ji21)) - (rd (rd_L1 l0 a1_0) (mx (wrap64 ((ji21) - 1)) 0)))) == 1) == ((Int.tmod (wrap64 (a1_0 + (ji21))) 2) == 1))) else (none)) else (none)) else (some (((wrap64 ((rd (rd_L1 l0 a1_0) (ji21)) - (rd (rd_L1 l0 (ji24)) (ji21)))) == 1) == ((Int.tmod (wrap64 (a1_0 + (ji21))) 2) == 0)))) else (none)) else (none)) else (none)) = some r := by first | (rw [hji24] at H; exact H) | (simp only [hji24] at H ⊢; exact H)
             (try (have hji24l : 0 ≤ ji24 := by (rw [← hji24]; unfold mx; (repeat' split) <;> omega)))
             (try (have hji24m : 0 ≤ ji24 := by omega))
             have hji24_ : (if (wrap64 (a1_0 - 1)) < 0 then 0 else (wrap64 (a1_0 - 1))) = ji24 := hji24
             by_cases c25 : 0 ≤ (ji24)
             · rw [if_pos c25] at H
               have c25b0 : decide (0 ≤ (ji24)) = true := decide_eq_true c25
               clear c25
               by_cases c26 : (ji24) < (l0.length : Int)
               · rw [if_pos c26] at H
                 have c26b0 : decide ((ji24) < (l0.length : Int)) = true := decide_eq_true c26
                 clear c26
                 by_cases c27 : (ji21) < ((rd_L1 l0 (ji24)).length : Int)
                 · rw [if_pos c27] at H
                   have c27b0 : decide ((ji21) < ((rd_L1 l0 (ji24)).length : Int)) = true := decide_eq_true c27
                   clear c27
                   by_cases c28 : a1_2 = 2
                   · rw [if_pos c28] at H
                     have c28b0 : (a1_2 == 2) = true := beq_iff_eq.mpr c28
                     have c28b1 : (a1_2 != 2) = false := bne_eq_false_iff_eq.mpr c28
                     clear c28
                     obtain ⟨ji29, hji29⟩ : ∃ j_ : Int, (mx (wrap64 ((ji21) - 1)) 0) = j_ := ⟨_, rfl⟩
                     replace H : (if 0 ≤ (ji29) then (if (ji29) < ((rd_L1 l0 a1_0).length : Int) then (some (((wrap64 ((rd (rd_L1 l0 a1_0) (ji21)) - (rd (rd_L1 l0 a1_0) (ji29)))) == 1) == ((Int.tmod (wrap64 (a1_0 + (ji21))) 2) == 1))) else (none)) else (none)) = some r := by first | (rw [hji29] at H; exact H) | (simp only [hji29] at H ⊢; exact H)
                     have hji29_ : (if (wrap64 ((ji21) - 1)) < 0 then 0 else (wrap64 ((ji21) - 1))) = ji29 := hji29
                     by_cases c30 : 0 ≤ (ji29)
                     · rw [if_pos c30] at H
                       have c30b0 : decide (0 ≤ (ji29)) = true := decide_eq_true c30
                       clear c30
                       by_cases c31 : (ji29) < ((rd_L1 l0 a1_0).length : Int)
                       · rw [if_pos c31] at H
                         have c31b0 : decide ((ji29) < ((rd_L1 l0 a1_0).length : Int)) = true := decide_eq_true c31
                         clear c31
                         obtain rfl := Option.some.inj H
                         go_enter Try.func77, Try.ntmps77
                         go_wp2_with (first | ((with_reducible refine gate_dst (N := 3) rfl ?_); refine box_event ?hg (N := 3) ?hd (cs := #[.int .i64 a1_0, .int .i64 a1_1, .int .i64 a1_2]) (t := 73) ?hr ?_; (case hd => rfl); (case hg => rfl); (case hr => first | (go_simp; done) | (go_simp; rfl)); intro gb253 hg w32 hbox hb; have n0_ := Aside0.mk (below_step (bel_) hb); have n1_ := Aside0.mk (hbox); have n2_ := Aside0.mk ((by rw [hg]; exact (below_size (bel_)) : w.heap.size ≤ gb253)); have n3_ := Aside0.mk ((by rw [hg]; exact (below_size (bel_)) : w.heap.size ≤ gb253)); clear HB; have HB := n0_; have BK253 := n1_; have GW253 := n2_; have GE253 := n3_; clear n0_ n1_ n2_ n3_; clear hb hbox hg; have hcz33_0 : w32.cell? ⟨gb253, 0, none⟩ = some (.int .i64 a1_0) := (blk_cell BK253.out 0).trans rfl; have hcz33_1 : w32.cell? ⟨gb253, 1, none⟩ = some (.int .i64 a1_1) := (blk_cell BK253.out 1).trans rfl; have hcz33_2 : w32.cell? ⟨gb253, 2, none⟩ = some (.int .i64 a1_2) := (blk_cell BK253.out 2).trans rfl; have hfz33_0 := blk_frozen BK253.out 0; have hfz33_1 := blk_frozen BK253.out 1; have hfz33_2 := blk_frozen BK253.out 2; have p262 : 0 ≤ (a1_0 : Int) := od_; have q262 : a1_0 < (l0.length : Int) := od_; obtain ⟨ad262, A262_0, c262_0, e262, hx262_0, hl262_0, hi262_0⟩ := at_L1 HR0.out a1_0 p262 q262; cases e262; replace hx262_0 := (HB.out.cell (World.block_lt_of_cell? w _ hx262_0)).trans hx262_0; have HR262_0 := Aside0.mk hi262_0; have HC262_0 := Aside0.mk hl262_0; clear hi262_0 hl262_0; replace p262 := eq_true p262; replace q262 := eq_true q262; have p263 : 0 ≤ ((ji21) : Int) := od_; have q263 : (ji21) < ((rd_L1 l0 a1_0).length : Int) := od_; obtain ⟨ad263, e263, hx263_0⟩ := Kd.at_int HR262_0.out (ji21) p263 q263; cases e263; replace hx263_0 := (HB.out.cell (World.block_lt_of_cell? w _ hx263_0)).trans hx263_0; replace p263 := eq_true p263; replace q263 := eq_true q263; have p264 : 0 ≤ ((ji24) : Int) := od_; have q264 : (ji24) < (l0.length : Int) := od_; obtain ⟨ad264, A264_0, c264_0, e264, hx264_0, hl264_0, hi264_0⟩ := at_L1 HR0.out (ji24) p264 q264; obtain rfl : ad262 = ad264 := (by injection e264); replace hx264_0 := (HB.out.cell (World.block_lt_of_cell? w _ hx264_0)).trans hx264_0; have HR264_0 := Aside0.mk hi264_0; have HC264_0 := Aside0.mk hl264_0; clear hi264_0 hl264_0; replace p264 := eq_true p264; replace q264 := eq_true q264; have p265 : 0 ≤ ((ji21) : Int) := od_; have q265 : (ji21) < ((rd_L1 l0 (ji24)).length : Int) := od_; obtain ⟨ad265, e265, hx265_0⟩ := Kd.at_int HR264_0.out (ji21) p265 q265; cases e265; replace hx265_0 := (HB.out.cell (World.block_lt_of_cell? w _ hx265_0)).trans hx265_0; replace p265 := eq_true p265; replace q265 := eq_true q265; have p266 : 0 ≤ (a1_0 : Int) := od_; have q266 : a1_0 < (l0.length : Int) := od_; obtain ⟨ad266, A266_0, c266_0, e266, hx266_0, hl266_0, hi266_0⟩ := at_L1 HR0.out a1_0 p266 q266; obtain rfl : ad262 = ad266 := (by injection e266); replace hx266_0 := (HB.out.cell (World.block_lt_of_cell? w _ hx266_0)).trans hx266_0; have HR266_0 := Aside0.mk hi266_0; have HC266_0 := Aside0.mk hl266_0; clear hi266_0 hl266_0; replace p266 := eq_true p266; replace q266 := eq_true q266; have ea_ := Option.some.inj (hx262_0.symm.trans hx266_0); injection ea_ with ea_ en_ ec_; subst ea_; subst ec_; clear en_; have p267 : 0 ≤ ((ji21) : Int) := od_; have q267 : (ji21) < ((rd_L1 l0 a1_0).length : Int) := od_; obtain ⟨ad267, e267, hx267_0⟩ := Kd.at_int HR266_0.out (ji21) p267 q267; cases e267; replace hx267_0 := (HB.out.cell (World.block_lt_of_cell? w _ hx267_0)).trans hx267_0; replace p267 := eq_true p267; replace q267 := eq_true q267; have p268 : 0 ≤ (a1_0 : Int) := od_; have q268 : a1_0 < (l0.length : Int) := od_; obtain ⟨ad268, A268_0, c268_0, e268, hx268_0, hl268_0, hi268_0⟩ := at_L1 HR0.out a1_0 p268 q268; obtain rfl : ad262 = ad268 := (by injection e268); replace hx268_0 := (HB.out.cell (World.block_lt_of_cell? w _ hx268_0)).trans hx268_0; have HR268_0 := Aside0.mk hi268_0; have HC268_0 := Aside0.mk hl268_0; clear hi268_0 hl268_0; replace p268 := eq_true p268; replace q268 := eq_true q268; have ea_ := Option.some.inj (hx262_0.symm.trans hx268_0); injection ea_ with ea_ en_ ec_; subst ea_; subst ec_; clear en_; have p269 : 0 ≤ ((ji29) : Int) := od_; have q269 : (ji29) < ((rd_L1 l0 a1_0).length : Int) := od_; obtain ⟨ad269, e269, hx269_0⟩ := Kd.at_int HR268_0.out (ji29) p269 q269; cases e269; replace hx269_0 := (HB.out.cell (World.block_lt_of_cell? w _ hx269_0)).trans hx269_0; replace p269 := eq_true p269; replace q269 := eq_true q269))
                         repeat (go_quiet (fail); try go_wp2)
                         go_ret
                         exact ⟨by first | rfl | (simp [errW_none, errW_some] <;> rfl) | (simp only [← hji21, ← hji24, ← hji29]; first | rfl | (simp [errW_none, errW_some] <;> rfl)) | (simp [*, errW_none, errW_some] <;> rfl), by repeat (first | (with_reducible first | exact HB.out | apply below_alloc | apply pw_below_drewN | apply below_drew1 | refine below_set ?_ GE253.out) | exact HB.out)⟩
                       · rw [if_neg c31] at H
                         exact absurd H (by simp)
                     · rw [if_neg c30] at H
                       exact absurd H (by simp)
                   · rw [if_neg c28] at H
                     have c28b0 : (a1_2 == 2) = false := beq_eq_false_iff_ne.mpr c28
                     have c28b1 : (a1_2 != 2) = true := bne_iff_ne.mpr c28
                     obtain rfl := Option.some.inj H
                     go_enter Try.func77, Try.ntmps77
                     go_wp2_with (first | ((with_reducible refine gate_dst (N := 3) rfl ?_); refine box_event ?hg (N := 3) ?hd (cs := #[.int .i64 a1_0, .int .i64 a1_1, .int .i64 a1_2]) (t := 73) ?hr ?_; (case hd => rfl); (case hg => rfl); (case hr => first | (go_simp; done) | (go_simp; rfl)); intro gb253 hg w34 hbox hb; have n0_ := Aside0.mk (below_step (bel_) hb); have n1_ := Aside0.mk (hbox); have n2_ := Aside0.mk ((by rw [hg]; exact (below_size (bel_)) : w.heap.size ≤ gb253)); have n3_ := Aside0.mk ((by rw [hg]; exact (below_size (bel_)) : w.heap.size ≤ gb253)); clear HB; have HB := n0_; have BK253 := n1_; have GW253 := n2_; have GE253 := n3_; clear n0_ n1_ n2_ n3_; clear hb hbox hg; have hcz35_0 : w34.cell? ⟨gb253, 0, none⟩ = some (.int .i64 a1_0) := (blk_cell BK253.out 0).trans rfl; have hcz35_1 : w34.cell? ⟨gb253, 1, none⟩ = some (.int .i64 a1_1) := (blk_cell BK253.out 1).trans rfl; have hcz35_2 : w34.cell? ⟨gb253, 2, none⟩ = some (.int .i64 a1_2) := (blk_cell BK253.out 2).trans rfl; have hfz35_0 := blk_frozen BK253.out 0; have hfz35_1 := blk_frozen BK253.out 1; have hfz35_2 := blk_frozen BK253.out 2; have p262 : 0 ≤ (a1_0 : Int) := od_; have q262 : a1_0 < (l0.length : Int) := od_; obtain ⟨ad262, A262_0, c262_0, e262, hx262_0, hl262_0, hi262_0⟩ := at_L1 HR0.out a1_0 p262 q262; cases e262; replace hx262_0 := (HB.out.cell (World.block_lt_of_cell? w _ hx262_0)).trans hx262_0; have HR262_0 := Aside0.mk hi262_0; have HC262_0 := Aside0.mk hl262_0; clear hi262_0 hl262_0; replace p262 := eq_true p262; replace q262 := eq_true q262; have p263 : 0 ≤ ((ji21) : Int) := od_; have q263 : (ji21) < ((rd_L1 l0 a1_0).length : Int) := od_; obtain ⟨ad263, e263, hx263_0⟩ := Kd.at_int HR262_0.out (ji21) p263 q263; cases e263; replace hx263_0 := (HB.out.cell (World.block_lt_of_cell? w _ hx263_0)).trans hx263_0; replace p263 := eq_true p263; replace q263 := eq_true q263; have p264 : 0 ≤ ((ji24) : Int) := od_; have q264 : (ji24) < (l0.length : Int) := od_; obtain ⟨ad264, A264_0, c264_0, e264, hx264_0, hl264_0, hi264_0⟩ := at_L1 HR0.out (ji24) p264 q264; obtain rfl : ad262 = ad264 := (by injection e264); replace hx264_0 := (HB.out.cell (World.block_lt_of_cell? w _ hx264_0)).trans hx264_0; have HR264_0 := Aside0.mk hi264_0; have HC264_0 := Aside0.mk hl264_0; clear hi264_0 hl264_0; replace p264 := eq_true p264; replace q264 := eq_true q264; have p265 : 0 ≤ ((ji21) : Int) := od_; have q265 : (ji21) < ((rd_L1 l0 (ji24)).length : Int) := od_; obtain ⟨ad265, e265, hx265_0⟩ := Kd.at_int HR264_0.out (ji21) p265 q265; cases e265; replace hx265_0 := (HB.out.cell (World.block_lt_of_cell? w _ hx265_0)).trans hx265_0; replace p265 := eq_true p265; replace q265 := eq_true q265))
                     repeat (go_quiet (fail); try go_wp2)
                     go_ret
                     exact ⟨by first | rfl | (simp [errW_none, errW_some] <;> rfl) | (simp only [← hji21, ← hji24]; first | rfl | (simp [errW_none, errW_some] <;> rfl)) | (simp [*, errW_none, errW_some] <;> rfl), by repeat (first | (with_reducible first | exact HB.out | apply below_alloc | apply pw_below_drewN | apply below_drew1 | refine below_set ?_ GE253.out) | exact HB.out)⟩
                 · rw [if_neg c27] at H
                   exact absurd H (by simp)
               · rw [if_neg c26] at H
                 exact absurd H (by simp)
             · rw [if_neg c25] at H
               exact absurd H (by simp)
           · rw [if_neg c23] at H
             exact absurd H (by simp)
         · rw [if_neg c22] at H
           exact absurd H (by simp)
       · rw [if_neg c20] at H
         exact absurd H (by simp)
     · rw [if_neg c19] at H
       exact absurd H (by simp)
   · rw [if_neg c18] at H
     have c18b0 : (a1_2 == 3) = false := beq_eq_false_iff_ne.mpr c18
     have c18b1 : (a1_2 != 3) = true := bne_iff_ne.mpr c18
     by_cases c36 : 0 ≤ a1_0
     · rw [if_pos c36] at H
       have c36b0 : decide (0 ≤ a1_0) = true := decide_eq_true c36
       clear c36
       by_cases c37 : a1_0 < (l0.length : Int)
       · rw [if_pos c37] at H
         have c37b0 : decide (a1_0 < (l0.length : Int)) = true := decide_eq_true c37
         clear c37
         by_cases c38 : 0 ≤ a1_1
         · rw [if_pos c38] at H
           have c38b0 : decide (0 ≤ a1_1) = true := decide_eq_true c38
           clear c38
           by_cases c39 : a1_1 < ((rd_L1 l0 a1_0).length : Int)
           · rw [if_pos c39] at H
             have c39b0 : decide (a1_1 < ((rd_L1 l0 a1_0).length : Int)) = true := decide_eq_true c39
             clear c39
             obtain ⟨ji40, hji40⟩ : ∃ j_ : Int, (mx (wrap64 (a1_0 - 1)) 0) = j_ := ⟨_, rfl⟩
             replace H : (if 0 ≤ (ji40) then (if (ji40) < (l0.length : Int) then (if a1_1 < ((rd_L1 l0 (ji40)).length : Int) then (if a1_2 = 2 then (if 0 ≤ (mx (wrap64 (a1_1 - 1)) 0) then (if (mx (wrap64 (a1_1 - 1)) 0) < ((rd_L1 l0 a1_0).length : Int) then (some (((wrap64 ((rd (rd_L1 l0 a1_0) a1_1) - (rd (rd_L1 l0 a1_0) (mx (wrap64 (a1_1 - 1)) 0)))) == 1) == ((Int.tmod (wrap64 (a1_0 + a1_1)) 2) == 1))) else (none)) else (none)) else (some (((wrap64 ((rd (rd_L1 l0 a1_0) a1_1) - (rd (rd_L1 l0 (ji40)) a1_1))) == 1) == ((Int.tmod (wrap64 (a1_0 + a1_1)) 2) == 0)))) else (none)) else (none)) else (none)) = some r := by first | (rw [hji40] at H; exact H) | (simp only [hji40] at H ⊢; exact H)
             (try (have hji40l : 0 ≤ ji40 := by (rw [← hji40]; unfold mx; (repeat' split) <;> omega)))
             (try (have hji40m : 0 ≤ ji40 := by omega))
             have hji40_ : (if (wrap64 (a1_0 - 1)) < 0 then 0 else (wrap64 (a1_0 - 1))) = ji40 := hji40
             by_cases c41 : 0 ≤ (ji40)
             · rw [if_pos c41] at H
               have c41b0 : decide (0 ≤ (ji40)) = true := decide_eq_true c41
               clear c41
               by_cases c42 : (ji40) < (l0.length : Int)
               · rw [if_pos c42] at H
                 have c42b0 : decide ((ji40) < (l0.length : Int)) = true := decide_eq_true c42
                 clear c42
                 by_cases c43 : a1_1 < ((rd_L1 l0 (ji40)).length : Int)
                 · rw [if_pos c43] at H
                   have c43b0 : decide (a1_1 < ((rd_L1 l0 (ji40)).length : Int)) = true := decide_eq_true c43
                   clear c43
                   by_cases c44 : a1_2 = 2
                   · rw [if_pos c44] at H
                     have c44b0 : (a1_2 == 2) = true := beq_iff_eq.mpr c44
                     have c44b1 : (a1_2 != 2) = false := bne_eq_false_iff_eq.mpr c44
                     clear c44
                     obtain ⟨ji45, hji45⟩ : ∃ j_ : Int, (mx (wrap64 (a1_1 - 1)) 0) = j_ := ⟨_, rfl⟩
                     replace H : (if 0 ≤ (ji45) then (if (ji45) < ((rd_L1 l0 a1_0).length : Int) then (some (((wrap64 ((rd (rd_L1 l0 a1_0) a1_1) - (rd (rd_L1 l0 a1_0) (ji45)))) == 1) == ((Int.tmod (wrap64 (a1_0 + a1_1)) 2) == 1))) else (none)) else (none)) = some r := by first | (rw [hji45] at H; exact H) | (simp only [hji45] at H ⊢; exact H)
                     (try (have hji45l : 0 ≤ ji45 := by (rw [← hji45]; unfold mx; (repeat' split) <;> omega)))
                     (try (have hji45m : 0 ≤ ji45 := by omega))
                     have hji45_ : (if (wrap64 (a1_1 - 1)) < 0 then 0 else (wrap64 (a1_1 - 1))) = ji45 := hji45
                     by_cases c46 : 0 ≤ (ji45)
                     · rw [if_pos c46] at H
                       have c46b0 : decide (0 ≤ (ji45)) = true := decide_eq_true c46
                       clear c46
                       by_cases c47 : (ji45) < ((rd_L1 l0 a1_0).length : Int)
                       · rw [if_pos c47] at H
                         have c47b0 : decide ((ji45) < ((rd_L1 l0 a1_0).length : Int)) = true := decide_eq_true c47
                         clear c47
                         obtain rfl := Option.some.inj H
                         go_enter Try.func77, Try.ntmps77
                         go_wp2_with (first | ((with_reducible refine gate_dst (N := 3) rfl ?_); refine box_event ?hg (N := 3) ?hd (cs := #[.int .i64 a1_0, .int .i64 a1_1, .int .i64 a1_2]) (t := 73) ?hr ?_; (case hd => rfl); (case hg => rfl); (case hr => first | (go_simp; done) | (go_simp; rfl)); intro gb253 hg w48 hbox hb; have n0_ := Aside0.mk (below_step (bel_) hb); have n1_ := Aside0.mk (hbox); have n2_ := Aside0.mk ((by rw [hg]; exact (below_size (bel_)) : w.heap.size ≤ gb253)); have n3_ := Aside0.mk ((by rw [hg]; exact (below_size (bel_)) : w.heap.size ≤ gb253)); clear HB; have HB := n0_; have BK253 := n1_; have GW253 := n2_; have GE253 := n3_; clear n0_ n1_ n2_ n3_; clear hb hbox hg; have hcz49_0 : w48.cell? ⟨gb253, 0, none⟩ = some (.int .i64 a1_0) := (blk_cell BK253.out 0).trans rfl; have hcz49_1 : w48.cell? ⟨gb253, 1, none⟩ = some (.int .i64 a1_1) := (blk_cell BK253.out 1).trans rfl; have hcz49_2 : w48.cell? ⟨gb253, 2, none⟩ = some (.int .i64 a1_2) := (blk_cell BK253.out 2).trans rfl; have hfz49_0 := blk_frozen BK253.out 0; have hfz49_1 := blk_frozen BK253.out 1; have hfz49_2 := blk_frozen BK253.out 2; have p270 : 0 ≤ (a1_0 : Int) := od_; have q270 : a1_0 < (l0.length : Int) := od_; obtain ⟨ad270, A270_0, c270_0, e270, hx270_0, hl270_0, hi270_0⟩ := at_L1 HR0.out a1_0 p270 q270; cases e270; replace hx270_0 := (HB.out.cell (World.block_lt_of_cell? w _ hx270_0)).trans hx270_0; have HR270_0 := Aside0.mk hi270_0; have HC270_0 := Aside0.mk hl270_0; clear hi270_0 hl270_0; replace p270 := eq_true p270; replace q270 := eq_true q270; have p271 : 0 ≤ (a1_1 : Int) := od_; have q271 : a1_1 < ((rd_L1 l0 a1_0).length : Int) := od_; obtain ⟨ad271, e271, hx271_0⟩ := Kd.at_int HR270_0.out a1_1 p271 q271; cases e271; replace hx271_0 := (HB.out.cell (World.block_lt_of_cell? w _ hx271_0)).trans hx271_0; replace p271 := eq_true p271; replace q271 := eq_true q271; have p272 : 0 ≤ ((ji40) : Int) := od_; have q272 : (ji40) < (l0.length : Int) := od_; obtain ⟨ad272, A272_0, c272_0, e272, hx272_0, hl272_0, hi272_0⟩ := at_L1 HR0.out (ji40) p272 q272; obtain rfl : ad270 = ad272 := (by injection e272); replace hx272_0 := (HB.out.cell (World.block_lt_of_cell? w _ hx272_0)).trans hx272_0; have HR272_0 := Aside0.mk hi272_0; have HC272_0 := Aside0.mk hl272_0; clear hi272_0 hl272_0; replace p272 := eq_true p272; replace q272 := eq_true q272; have p273 : 0 ≤ (a1_1 : Int) := od_; have q273 : a1_1 < ((rd_L1 l0 (ji40)).length : Int) := od_; obtain ⟨ad273, e273, hx273_0⟩ := Kd.at_int HR272_0.out a1_1 p273 q273; cases e273; replace hx273_0 := (HB.out.cell (World.block_lt_of_cell? w _ hx273_0)).trans hx273_0; replace p273 := eq_true p273; replace q273 := eq_true q273; have p274 : 0 ≤ (a1_0 : Int) := od_; have q274 : a1_0 < (l0.length : Int) := od_; obtain ⟨ad274, A274_0, c274_0, e274, hx274_0, hl274_0, hi274_0⟩ := at_L1 HR0.out a1_0 p274 q274; obtain rfl : ad270 = ad274 := (by injection e274); replace hx274_0 := (HB.out.cell (World.block_lt_of_cell? w _ hx274_0)).trans hx274_0; have HR274_0 := Aside0.mk hi274_0; have HC274_0 := Aside0.mk hl274_0; clear hi274_0 hl274_0; replace p274 := eq_true p274; replace q274 := eq_true q274; have ea_ := Option.some.inj (hx270_0.symm.trans hx274_0); injection ea_ with ea_ en_ ec_; subst ea_; subst ec_; clear en_; have p275 : 0 ≤ (a1_1 : Int) := od_; have q275 : a1_1 < ((rd_L1 l0 a1_0).length : Int) := od_; obtain ⟨ad275, e275, hx275_0⟩ := Kd.at_int HR274_0.out a1_1 p275 q275; cases e275; replace hx275_0 := (HB.out.cell (World.block_lt_of_cell? w _ hx275_0)).trans hx275_0; replace p275 := eq_true p275; replace q275 := eq_true q275; have p276 : 0 ≤ (a1_0 : Int) := od_; have q276 : a1_0 < (l0.length : Int) := od_; obtain ⟨ad276, A276_0, c276_0, e276, hx276_0, hl276_0, hi276_0⟩ := at_L1 HR0.out a1_0 p276 q276; obtain rfl : ad270 = ad276 := (by injection e276); replace hx276_0 := (HB.out.cell (World.block_lt_of_cell? w _ hx276_0)).trans hx276_0; have HR276_0 := Aside0.mk hi276_0; have HC276_0 := Aside0.mk hl276_0; clear hi276_0 hl276_0; replace p276 := eq_true p276; replace q276 := eq_true q276; have ea_ := Option.some.inj (hx270_0.symm.trans hx276_0); injection ea_ with ea_ en_ ec_; subst ea_; subst ec_; clear en_; have p277 : 0 ≤ ((ji45) : Int) := od_; have q277 : (ji45) < ((rd_L1 l0 a1_0).length : Int) := od_; obtain ⟨ad277, e277, hx277_0⟩ := Kd.at_int HR276_0.out (ji45) p277 q277; cases e277; replace hx277_0 := (HB.out.cell (World.block_lt_of_cell? w _ hx277_0)).trans hx277_0; replace p277 := eq_true p277; replace q277 := eq_true q277))
                         repeat (go_quiet (fail); try go_wp2)
                         go_ret
                         exact ⟨by first | rfl | (simp [errW_none, errW_some] <;> rfl) | (simp only [← hji40, ← hji45]; first | rfl | (simp [errW_none, errW_some] <;> rfl)) | (simp [*, errW_none, errW_some] <;> rfl), by repeat (first | (with_reducible first | exact HB.out | apply below_alloc | apply pw_below_drewN | apply below_drew1 | refine below_set ?_ GE253.out) | exact HB.out)⟩
                       · rw [if_neg c47] at H
                         exact absurd H (by simp)
                     · rw [if_neg c46] at H
                       exact absurd H (by simp)
                   · rw [if_neg c44] at H
                     have c44b0 : (a1_2 == 2) = false := beq_eq_false_iff_ne.mpr c44
                     have c44b1 : (a1_2 != 2) = true := bne_iff_ne.mpr c44
                     obtain rfl := Option.some.inj H
                     go_enter Try.func77, Try.ntmps77
                     go_wp2_with (first | ((with_reducible refine gate_dst (N := 3) rfl ?_); refine box_event ?hg (N := 3) ?hd (cs := #[.int .i64 a1_0, .int .i64 a1_1, .int .i64 a1_2]) (t := 73) ?hr ?_; (case hd => rfl); (case hg => rfl); (case hr => first | (go_simp; done) | (go_simp; rfl)); intro gb253 hg w50 hbox hb; have n0_ := Aside0.mk (below_step (bel_) hb); have n1_ := Aside0.mk (hbox); have n2_ := Aside0.mk ((by rw [hg]; exact (below_size (bel_)) : w.heap.size ≤ gb253)); have n3_ := Aside0.mk ((by rw [hg]; exact (below_size (bel_)) : w.heap.size ≤ gb253)); clear HB; have HB := n0_; have BK253 := n1_; have GW253 := n2_; have GE253 := n3_; clear n0_ n1_ n2_ n3_; clear hb hbox hg; have hcz51_0 : w50.cell? ⟨gb253, 0, none⟩ = some (.int .i64 a1_0) := (blk_cell BK253.out 0).trans rfl; have hcz51_1 : w50.cell? ⟨gb253, 1, none⟩ = some (.int .i64 a1_1) := (blk_cell BK253.out 1).trans rfl; have hcz51_2 : w50.cell? ⟨gb253, 2, none⟩ = some (.int .i64 a1_2) := (blk_cell BK253.out 2).trans rfl; have hfz51_0 := blk_frozen BK253.out 0; have hfz51_1 := blk_frozen BK253.out 1; have hfz51_2 := blk_frozen BK253.out 2; have p270 : 0 ≤ (a1_0 : Int) := od_; have q270 : a1_0 < (l0.length : Int) := od_; obtain ⟨ad270, A270_0, c270_0, e270, hx270_0, hl270_0, hi270_0⟩ := at_L1 HR0.out a1_0 p270 q270; cases e270; replace hx270_0 := (HB.out.cell (World.block_lt_of_cell? w _ hx270_0)).trans hx270_0; have HR270_0 := Aside0.mk hi270_0; have HC270_0 := Aside0.mk hl270_0; clear hi270_0 hl270_0; replace p270 := eq_true p270; replace q270 := eq_true q270; have p271 : 0 ≤ (a1_1 : Int) := od_; have q271 : a1_1 < ((rd_L1 l0 a1_0).length : Int) := od_; obtain ⟨ad271, e271, hx271_0⟩ := Kd.at_int HR270_0.out a1_1 p271 q271; cases e271; replace hx271_0 := (HB.out.cell (World.block_lt_of_cell? w _ hx271_0)).trans hx271_0; replace p271 := eq_true p271; replace q271 := eq_true q271; have p272 : 0 ≤ ((ji40) : Int) := od_; have q272 : (ji40) < (l0.length : Int) := od_; obtain ⟨ad272, A272_0, c272_0, e272, hx272_0, hl272_0, hi272_0⟩ := at_L1 HR0.out (ji40) p272 q272; obtain rfl : ad270 = ad272 := (by injection e272); replace hx272_0 := (HB.out.cell (World.block_lt_of_cell? w _ hx272_0)).trans hx272_0; have HR272_0 := Aside0.mk hi272_0; have HC272_0 := Aside0.mk hl272_0; clear hi272_0 hl272_0; replace p272 := eq_true p272; replace q272 := eq_true q272; have p273 : 0 ≤ (a1_1 : Int) := od_; have q273 : a1_1 < ((rd_L1 l0 (ji40)).length : Int) := od_; obtain ⟨ad273, e273, hx273_0⟩ := Kd.at_int HR272_0.out a1_1 p273 q273; cases e273; replace hx273_0 := (HB.out.cell (World.block_lt_of_cell? w _ hx273_0)).trans hx273_0; replace p273 := eq_true p273; replace q273 := eq_true q273))
                     repeat (go_quiet (fail); try go_wp2)
                     go_ret
                     exact ⟨by first | rfl | (simp [errW_none, errW_some] <;> rfl) | (simp only [← hji40]; first | rfl | (simp [errW_none, errW_some] <;> rfl)) | (simp [*, errW_none, errW_some] <;> rfl), by repeat (first | (with_reducible first | exact HB.out | apply below_alloc | apply pw_below_drewN | apply below_drew1 | refine below_set ?_ GE253.out) | exact HB.out)⟩
                 · rw [if_neg c43] at H
                   exact absurd H (by simp)
               · rw [if_neg c42] at H
                 exact absurd H (by simp)
             · rw [if_neg c41] at H
               exact absurd H (by simp)
           · rw [if_neg c39] at H
             exact absurd H (by simp)
         · rw [if_neg c38] at H
           exact absurd H (by simp)
       · rw [if_neg c37] at H
         exact absurd H (by simp)
     · rw [if_neg c36] at H
       exact absurd H (by simp)

end Go.Proofs.Ytdinepghommchaa.V

/- The walk of ends' closure: a knot from which a thread leads outwards is appended. -/
namespace Go.Proofs.Ytdinepghommchaa.V
open Go.RowKit Go.Proofs.YtdinepghommchaaW.PrintWords Go.Proofs.YtdinepghommchaaW.PrintLast Go.Proofs.YtdinepghommchaaW.PrintMore
set_option linter.unusedVariables false
set_option linter.unusedSimpArgs false

theorem info73b : (Try.prog.info? 73).map (fun i => (i.zero, i.size, i.bytes)) = some (some (.agg #[(.int .i64 0), (.int .i64 0), (.int .i64 0)]), 3, 24) := by kernel_rfl

def veils_ends1.f (l : List (List Int)) (i j way : Int) (out : List S73) : Option (List S73) :=
 (veils_heights_thread.f l i j way).bind fun b => if b = true then (if out.length < 5864062014805 then some (out ++ [⟨i, j, way⟩]) else none) else some out

structure AccEnds (A : Option Addr) (n c ph pe : Nat) (w W : World) (out : List S73) : Prop where
 bh : W.heap[ph]? = some (.cells #[.slice A n c] 54 (0, 0))
 be : ∃ v, W.heap[pe]? = some (.cells #[v] 70 (0, 0)) ∧ Kd.R k73 73 W w.heap.size (fun _ => True) v out
 bel : Below w.heap.size w W

set_option maxHeartbeats 4000000 in
set_option maxRecDepth 100000 in
theorem veils_ends1.calls (l : List (List Int)) (A : Option Addr) (c ph pe : Nat) (w W : World) (i j way : Int) (out out' : List S73) (hr : Aside0 (Kd.C (Kd.slice 3 (Kd.int .i64)) w A l.length l)) (hc : Aside0 (l.length ≤ c)) (hpe : w.heap.size ≤ pe)
 (ha : AccEnds A l.length c ph pe w W out) (h : veils_ends1.f l i j way out = some out') :
 Calls Try.prog 76 #[.int .i64 i, .int .i64 j, .int .i64 way, .pointer (some ⟨ph, 0, none⟩), .pointer (some ⟨pe, 0, none⟩)] W fun e W' => e = .returned (.tuple #[]) ∧ AccEnds A l.length c ph pe w W' out' := by
 obtain ⟨v, hbe, hR⟩ := ha.be
 obtain ⟨b, hb, h⟩ := Option.bind_eq_some_iff.mp h
 have hne : ph ≠ pe := fun e => by
  have h1 := ha.bh
  rw [e, hbe] at h1
  injection h1 with h1
  injection h1 with _ h2
  cases h2
 have HX := Aside0.mk ha.bh
 have HE := Aside0.mk hbe
 have HR := Aside0.mk hR
 have HB := Aside0.mk ha.bel
 have HT := Aside0.mk hb
 have HP := Aside0.mk hpe
 have HN := Aside0.mk hne
 have ch : W.cell? ⟨ph, 0, none⟩ = some (.slice A l.length c) := (blk_cell ha.bh 0).trans rfl
 have ce : W.cell? ⟨pe, 0, none⟩ = some v := (blk_cell hbe 0).trans rfl
 have hu73 := Try.underlying73
 have lp := blk_lt ha.bh
 have le := blk_lt hbe
 clear ha hbe hR hb hpe hne
 cases b with
 | false =>
  obtain rfl := Option.some.inj h
  clear h
  go_enter Try.func76, Try.ntmps76
  go_wp2_with (go_at_call 77; refine (veils_heights_thread.calls A c l i j way false _ ?s1 hc.out HT.out).mono ?_; (case s1 => exact Kd.C_alloc (Kd.C_below hr.out HB.out) _); rintro e w1 ⟨rfl, hb1⟩; have HB1 := Aside0.mk hb1; clear hb1)
  first | go_end0 | ((try simp only [Exit.inBlock, Exit.then]); refine bodyPost_ret (results_none rfl _ _ _) rfl ?_)
  exact ⟨rfl, blk_below (blk_alloc HX.out _) HB1.out, ⟨v, blk_below (blk_alloc HE.out _) HB1.out, Kd.R_below (Kd.R_alloc HR.out _) HB1.out⟩, below_step (below_alloc HB.out _) HB1.out⟩
 | true =>
  rw [if_pos rfl] at h
  by_cases hl : out.length < 5864062014805
  · rw [if_pos hl] at h
    obtain rfl := Option.some.inj h
    have HL := Aside0.mk hl
    clear h hl
    have bk : (W.alloc (.cells #[.int .i64 i, .int .i64 j, .int .i64 way] 73)).heap[W.heap.size]? = some (.cells #[.int .i64 i, .int .i64 j, .int .i64 way] 73 (0, 0)) := blk_new _ _
    have BK := Aside0.mk bk
    clear bk
    go_enter Try.func76, Try.ntmps76
    go_wp2_with (first | (go_at_call 77; refine (veils_heights_thread.calls A c l i j way true _ ?s1 hc.out HT.out).mono ?_; (case s1 => exact Kd.C_alloc (Kd.C_below hr.out HB.out) _); rintro e w1 ⟨rfl, hb1⟩; have HB1 := Aside0.mk hb1; have ce1 := (blk_cell (blk_below (blk_alloc HE.out _) hb1) 0).trans (rfl : _ = some v); have k0 := (blk_cell (blk_below BK.out hb1) 0).trans (rfl : _ = some (Value.int .i64 i)); have k1 := (blk_cell (blk_below BK.out hb1) 1).trans (rfl : _ = some (Value.int .i64 j)); have k2 := (blk_cell (blk_below BK.out hb1) 2).trans (rfl : _ = some (Value.int .i64 way)); clear hb1) | ((with_reducible refine gate_builtin (b := .append) (xs := #[.tmp 16, .tmp 18]) rfl ?_); at_builtin; refine Kd.R_append k73 (w0 := w) w.heap.size rfl (.tmp 16) (.tmp 18) 70 73 (.agg #[(.int .i64 0), (.int .i64 0), (.int .i64 0)]) 24 rfl Try.underlying70 info73b rfl (by decide) (by omega) v out (⟨i, j, way⟩ : S73) [.int .i64 i, .int .i64 j, .int .i64 way] (fun _ => True) (fun _ => False) rfl rfl ?aP (fun _ hk => hk.elim) ?aF ?aO ?aB ?aS ?aL ?_; (case aP => exact k73_mkM _ _ _ (⟨i, j, way⟩ : S73)); (case aB => exact below_step (below_alloc HB.out _) HB1.out); (case aF => exact (fun _ _ => trivial)); (case aO => exact Kd.R_below (Kd.R_alloc HR.out _) HB1.out); (case aS => exact below_size (below_step (below_alloc HB.out _) HB1.out)); (case aL => have := HL.out; omega); intro v2 w2 ho hb hg hat; have hne := Kd.R_ne (Kd.R_below (Kd.R_alloc HR.out _) HB1.out) (blk_below (blk_alloc HE.out _) HB1.out) (by decide); have hne2 := Kd.R_ne (Kd.R_below (Kd.R_alloc HR.out _) HB1.out) (blk_below (blk_alloc HX.out _) HB1.out) (by decide); have HE2 := Aside0.mk (blk_grown (blk_below (blk_alloc HE.out _) HB1.out) hg hne); have HX2 := Aside0.mk (blk_grown (blk_below (blk_alloc HX.out _) HB1.out) hg hne2); have HO2 := Aside0.mk ho; have HB2 := Aside0.mk hb; have ce2 := (blk_cell HE2.out 0).trans (rfl : _ = some v); have fe2 := blk_frozen HE2.out 0; clear ho hb hg hat hne hne2; obtain ⟨A2, c2, e2⟩ := Kd.R_slice HO2.out; subst e2))
    first | go_end0 | ((try simp only [Exit.inBlock, Exit.then]); refine bodyPost_ret (results_none rfl _ _ _) rfl ?_)
    refine ⟨rfl, blk_far HX2.out (fun e => HN.out e) _, ⟨_, by simpa using blk_set HE2.out 0 _, Kd.R_set HO2.out HE2.out (by decide) 0 _⟩, below_set HB2.out HP.out⟩
  · rw [if_neg hl] at h
    cases h
end Go.Proofs.Ytdinepghommchaa.V

/- The walk of ends: the four sides, one behind the other. -/
namespace Go.Proofs.Ytdinepghommchaa.V
open Go.RowKit Go.Proofs.YtdinepghommchaaW.PrintWords Go.Proofs.YtdinepghommchaaW.PrintLast Go.Proofs.YtdinepghommchaaW.PrintMore
set_option linter.unusedVariables false
set_option linter.unusedSimpArgs false

def upL (g : Int → List S73 → Option (List S73)) (n : Int) : Nat → Int → List S73 → Option (List S73)
 | 0, _, _ => none
 | k + 1, x, o => if x ≤ n then (g x o).bind fun o' => upL g n k (wrap64 (x + 1)) o' else some o
def downL (g : Int → List S73 → Option (List S73)) : Nat → Int → List S73 → Option (List S73)
 | 0, _, _ => none
 | k + 1, x, o => if 1 ≤ x then (g x o).bind fun o' => downL g k (wrap64 (x - 1)) o' else some o
def veils_heights_ends.f (l : List (List Int)) : Option (List S73) :=
 (upL (fun x => veils_ends1.f l 1 x 0) (wrap64 ((l.length : Int) - 1)) 100 1 []).bind fun o1 =>
 (upL (fun x => veils_ends1.f l x (wrap64 ((l.length : Int) - 1)) 1) (wrap64 ((l.length : Int) - 1)) 100 1 o1).bind fun o2 =>
 (downL (fun x => veils_ends1.f l (wrap64 ((l.length : Int) - 1)) x 2) 100 (wrap64 ((l.length : Int) - 1)) o2).bind fun o3 =>
 downL (fun x => veils_ends1.f l x 1 3) 100 (wrap64 ((l.length : Int) - 1)) o3

set_option maxHeartbeats 4000000 in
set_option maxRecDepth 100000 in
theorem veils_heights_ends.calls (A0 : Option Addr) (c0 : Nat) (l0 : List (List Int)) (r : List S73) (w : World) (hr0 : Kd.C (Kd.slice 3 (Kd.int .i64)) w A0 l0.length l0) (hc0 : l0.length ≤ c0) (h : veils_heights_ends.f l0 = some r) :
 Calls Try.prog 65 #[.slice A0 l0.length c0] w fun e w' => ∃ v0_ : Value, e = .returned (v0_) ∧ Kd.R k73 73 w' w.heap.size (fun _ => True) v0_ r ∧ Below w.heap.size w w' := by
 unfold veils_heights_ends.f at h
 obtain ⟨o1, h1, h⟩ := Option.bind_eq_some_iff.mp h
 obtain ⟨o2, h2, h⟩ := Option.bind_eq_some_iff.mp h
 obtain ⟨o3, h3, h4⟩ := Option.bind_eq_some_iff.mp h
 have hsz : veils_heights_size.f l0 = some (wrap64 ((l0.length : Int) - 1)) := rfl
 generalize wrap64 ((l0.length : Int) - 1) = n at h1 h2 h3 h4 hsz
 have H1 := Aside0.mk h1
 have H2 := Aside0.mk h2
 have H3 := Aside0.mk h3
 have H4 := Aside0.mk h4
 have HZ := Aside0.mk hsz
 have HR := Aside0.mk hr0
 have HC := Aside0.mk hc0
 clear h h1 h2 h3 h4 hsz hr0 hc0
 have hmf : ∀ (fn : Fn) (first cap : Array Value) (w : World), (Instr.makeFunc fn first cap).run Try.prog w = .ok (.func fn first cap) w := fun _ _ _ _ => rfl
 have B1 := Aside0.mk (blk_new w (.cells #[.slice A0 l0.length c0] 54))
 have hcell := (blk_cell B1.out 0).trans (rfl : _ = some (Value.slice A0 l0.length c0))
 go_enter Try.func65, Try.ntmps65
 go_wp2_with (go_at_call 74; refine (veils_heights_size.calls A0 c0 l0 n _ ?s1 HC.out HZ.out).mono ?_; (case s1 => exact Kd.C_below HR.out (below_alloc (Below.refl _ _) _)); rintro e w1 ⟨rfl, ⟨nd, rfl⟩⟩)
 go_loopg [6] 100 (fun kq vx w' => ∃ (x : Int) (o : List S73), vx = .int .i64 x ∧ Aside0 (upL (fun x => veils_ends1.f l0 1 x 0) n kq x o = some o1) ∧ Aside0 (AccEnds A0 l0.length c0 w.heap.size (w.heap.size + 1) w w' o))
 case atStart => exact ⟨1, [], rfl, H1, ⟨by simpa using ⟨blk_alloc B1.out _, ⟨_, (by simpa using blk_new ((w.alloc (.cells #[.slice A0 l0.length c0] 54)).drewN nd) (.cells #[.slice none 0 0] 70)), Kd.R_nil _ _ _ _ _⟩, below_alloc (pw_below_drewN (below_alloc (Below.refl _ _) _) nd) _⟩⟩⟩
 case round =>
  clear H1
  obtain ⟨x, o, rfl, HL, HA⟩ := hrel
  cases gk with
  | zero => exact absurd HL.out (by simp [upL])
  | succ k1 =>
   have H := HL.out
   clear HL
   simp only [upL] at H
   by_cases c1 : x ≤ n
   · rw [if_pos c1] at H
     have d1 : decide (x ≤ n) = true := decide_eq_true c1
     obtain ⟨o', ho, H⟩ := Option.bind_eq_some_iff.mp H
     have HO := Aside0.mk ho
     have HN := Aside0.mk H
     clear c1 ho H
     go_wp2_with (go_at_call 76; refine (veils_ends1.calls l0 A0 c0 w.heap.size (w.heap.size + 1) w _ _ _ _ o o' HR HC (by omega) HA.out HO.out).mono ?_; rintro e w2 ⟨rfl, ha2⟩; have HA2 := Aside0.mk ha2; clear ha2)
     go_roundg k1
     case measure => omega
     case rel => exact ⟨wrap64 (x + 1), o', rfl, HN, HA2⟩
   · rw [if_neg c1] at H
     have d1 : decide (x ≤ n) = false := decide_eq_false c1
     obtain rfl := Option.some.inj H
     clear c1 H
     go_wp2
     go_loopg [7] 100 (fun kq vx w' => ∃ (x : Int) (o : List S73), vx = .int .i64 x ∧ Aside0 (upL (fun x => veils_ends1.f l0 x n 1) n kq x o = some o2) ∧ Aside0 (AccEnds A0 l0.length c0 w.heap.size (w.heap.size + 1) w w' o))
     case atStart => exact ⟨1, _, rfl, H2, HA⟩
     case round =>
      clear H2
      obtain ⟨x, o, rfl, HL, HA⟩ := hrel
      cases gk with
      | zero => exact absurd HL.out (by simp [upL])
      | succ k1 =>
       have H := HL.out
       clear HL
       simp only [upL] at H
       by_cases c1 : x ≤ n
       · rw [if_pos c1] at H
         have d1 : decide (x ≤ n) = true := decide_eq_true c1
         obtain ⟨o', ho, H⟩ := Option.bind_eq_some_iff.mp H
         have HO := Aside0.mk ho
         have HN := Aside0.mk H
         clear c1 ho H
         go_wp2_with (go_at_call 76; refine (veils_ends1.calls l0 A0 c0 w.heap.size (w.heap.size + 1) w _ _ _ _ o o' HR HC (by omega) HA.out HO.out).mono ?_; rintro e w2 ⟨rfl, ha2⟩; have HA2 := Aside0.mk ha2; clear ha2)
         go_roundg k1
         case measure => omega
         case rel => exact ⟨wrap64 (x + 1), o', rfl, HN, HA2⟩
       · rw [if_neg c1] at H
         have d1 : decide (x ≤ n) = false := decide_eq_false c1
         obtain rfl := Option.some.inj H
         clear c1 H
         go_wp2
         go_loopg [8] 100 (fun kq vx w' => ∃ (x : Int) (o : List S73), vx = .int .i64 x ∧ Aside0 (downL (fun x => veils_ends1.f l0 n x 2) kq x o = some o3) ∧ Aside0 (AccEnds A0 l0.length c0 w.heap.size (w.heap.size + 1) w w' o))
         case atStart => exact ⟨n, _, rfl, H3, HA⟩
         case round =>
          clear H3
          obtain ⟨x, o, rfl, HL, HA⟩ := hrel
          cases gk with
          | zero => exact absurd HL.out (by simp [downL])
          | succ k1 =>
           have H := HL.out
           clear HL
           simp only [downL] at H
           by_cases c1 : 1 ≤ x
           · rw [if_pos c1] at H
             have d1 : decide (1 ≤ x) = true := decide_eq_true c1
             obtain ⟨o', ho, H⟩ := Option.bind_eq_some_iff.mp H
             have HO := Aside0.mk ho
             have HN := Aside0.mk H
             clear c1 ho H
             go_wp2_with (go_at_call 76; refine (veils_ends1.calls l0 A0 c0 w.heap.size (w.heap.size + 1) w _ _ _ _ o o' HR HC (by omega) HA.out HO.out).mono ?_; rintro e w2 ⟨rfl, ha2⟩; have HA2 := Aside0.mk ha2; clear ha2)
             go_roundg k1
             case measure => omega
             case rel => exact ⟨wrap64 (x - 1), o', rfl, HN, HA2⟩
           · rw [if_neg c1] at H
             have d1 : decide (1 ≤ x) = false := decide_eq_false c1
             obtain rfl := Option.some.inj H
             clear c1 H
             go_wp2
             go_loopg [9] 100 (fun kq vx w' => ∃ (x : Int) (o : List S73), vx = .int .i64 x ∧ Aside0 (downL (fun x => veils_ends1.f l0 x 1 3) kq x o = some r) ∧ Aside0 (AccEnds A0 l0.length c0 w.heap.size (w.heap.size + 1) w w' o))
             case atStart => exact ⟨n, _, rfl, H4, HA⟩
             case round =>
              clear H4
              obtain ⟨x, o, rfl, HL, HA⟩ := hrel
              cases gk with
              | zero => exact absurd HL.out (by simp [downL])
              | succ k1 =>
               have H := HL.out
               clear HL
               simp only [downL] at H
               by_cases c1 : 1 ≤ x
               · rw [if_pos c1] at H
                 have d1 : decide (1 ≤ x) = true := decide_eq_true c1
                 obtain ⟨o', ho, H⟩ := Option.bind_eq_some_iff.mp H
                 have HO := Aside0.mk ho
                 have HN := Aside0.mk H
                 clear c1 ho H
                 go_wp2_with (go_at_call 76; refine (veils_ends1.calls l0 A0 c0 w.heap.size (w.heap.size + 1) w _ _ _ _ o o' HR HC (by omega) HA.out HO.out).mono ?_; rintro e w2 ⟨rfl, ha2⟩; have HA2 := Aside0.mk ha2; clear ha2)
                 go_roundg k1
                 case measure => omega
                 case rel => exact ⟨wrap64 (x - 1), o', rfl, HN, HA2⟩
               · rw [if_neg c1] at H
                 have d1 : decide (1 ≤ x) = false := decide_eq_false c1
                 obtain rfl := Option.some.inj H
                 clear c1 H
                 obtain ⟨v, hv, hRv⟩ := HA.out.be
                 have cv := (blk_cell hv 0).trans (rfl : _ = some v)
                 have HV := Aside0.mk hRv
                 clear hv hRv
                 go_wp2
                 go_ret
                 exact ⟨v, rfl, HV.out, HA.out.bel⟩
end Go.Proofs.Ytdinepghommchaa.V

-- Written by a program of this session over the kit's printer: wip/gp.py.
namespace Go.Proofs.Ytdinepghommchaa.V
open Go.RowKit Go.Proofs.YtdinepghommchaaW.PrintWords Go.Proofs.YtdinepghommchaaW.PrintLast Go.Proofs.YtdinepghommchaaW.PrintMore
attribute [local go_sem] max2_int min2_int max_two min_two max_three min_three max_four min_four   -- for this text's walks alone
set_option linter.unusedVariables false
set_option linter.unusedSimpArgs false

theorem eqA73 (d : Nat) (w : World) (x0 y0 : Int) (x1 y1 : Int) (x2 y2 : Int) :
 (Op.equalIn (d + 2) 73 (.agg #[.int .i64 x0, .int .i64 x1, .int .i64 x2]) (.agg #[.int .i64 y0, .int .i64 y1, .int .i64 y2])).run Try.prog w = .ok (x0 == y0 && (x1 == y1 && (x2 == y2))) w := by
 refine eqA_of Try.underlying73 (by kernel_rfl) ?_
 refine eqf_cons (by rfl) (by go_simp; rfl) (by go_simp; rfl) (by go_simp) ?_
 refine eqf_cons (by rfl) (by go_simp; rfl) (by go_simp; rfl) (by go_simp) ?_
 exact eqf_last (by rfl) (by go_simp; rfl) (by go_simp; rfl) (by go_simp)
end Go.Proofs.Ytdinepghommchaa.V

-- Written by a program of this session over the kit's printer: wip/gp.py.
namespace Go.Proofs.Ytdinepghommchaa.V
open Go.RowKit Go.Proofs.YtdinepghommchaaW.PrintWords Go.Proofs.YtdinepghommchaaW.PrintLast Go.Proofs.YtdinepghommchaaW.PrintMore
attribute [local go_sem] max2_int min2_int max_two min_two max_three min_three max_four min_four   -- for this text's walks alone
set_option linter.unusedVariables false
set_option linter.unusedSimpArgs false

attribute [local go_sem high] eqA73
/-! ### veils_knot: function 66 -/
def veils_knot.l0 : Nat → List (S73) → Int → Int → Int → Int → Int → Option (Int)
 | 0, _, _, _, _, _, _ => none
 | k + 1, x0, x7, x8, x252000, x252001, x252002 => if x8 < x7 then (if 0 ≤ x8 then (if x8 < (x0.length : Int) then (if (x252000 == ((rd_T73 x0 x8).f0) && (x252001 == ((rd_T73 x0 x8).f1) && (x252002 == ((rd_T73 x0 x8).f2)))) = true then (some x8) else (veils_knot.l0 k x0 x7 (wrap64 (x8 + 1)) x252000 x252001 x252002)) else (none)) else (none)) else (some (-1))
def veils_knot.f (k : Nat) (l0 : List (S73)) (a1_0 : Int) (a1_1 : Int) (a1_2 : Int) : Option (Int) := veils_knot.l0 k l0 (l0.length : Int) 0 a1_0 a1_1 a1_2
set_option maxHeartbeats 8000000 in
set_option maxRecDepth 100000 in
theorem veils_knot.calls (k : Nat) (A0 : Option Addr) (c0 : Nat) (l0 : List (S73)) (a1_0 : Int) (a1_1 : Int) (a1_2 : Int) (r : Int) (w : World) (hr0 : Kd.C k73 w A0 l0.length l0) (hc0 : l0.length ≤ c0) (h : veils_knot.f k l0 a1_0 a1_1 a1_2 = some r) :
 Calls Try.prog 66 #[.slice A0 l0.length c0, .agg #[.int .i64 a1_0, .int .i64 a1_1, .int .i64 a1_2]] w fun e w' => e = .returned (.int .i64 r) ∧ Below w.heap.size w w' := by
 have hu73 := Try.underlying73
 have HR0 := Aside0.mk hr0
 have HC0 := Aside0.mk hc0
 clear hr0 hc0
 have HB := Aside0.mk (Below.refl w.heap.size w)
 have H : (veils_knot.l0 k l0 (l0.length : Int) 0 a1_0 a1_1 a1_2) = some r := h
 clear h
 have H' := Aside0.mk H
 clear H
 go_enter Try.func66, Try.ntmps66
 go_wp2_with (first | ((with_reducible refine gate_dst (N := 3) rfl ?_); refine box_event ?hg (N := 3) ?hd (cs := #[.int .i64 a1_0, .int .i64 a1_1, .int .i64 a1_2]) (t := 73) ?hr ?_; (case hd => rfl); (case hg => rfl); (case hr => first | (go_simp; done) | (go_simp; rfl)); intro gb251 hg w3 hbox hb; have n0_ := Aside0.mk (below_step (bel_) hb); have n1_ := Aside0.mk (hbox); have n2_ := Aside0.mk ((by rw [hg]; exact (below_size (bel_)) : w.heap.size ≤ gb251)); have n3_ := Aside0.mk ((by rw [hg]; exact (below_size (bel_)) : w.heap.size ≤ gb251)); clear HB; have HB := n0_; have BK251 := n1_; have GW251 := n2_; have GE251 := n3_; clear n0_ n1_ n2_ n3_; clear hb hbox hg))
 repeat (go_quiet (fail); try go_wp2)
 go_loopg [8] k (fun kq v8 w' => ∃ (x8_1 : Int), v8 = .int .i64 x8_1 ∧ Aside0 (veils_knot.l0 kq l0 (l0.length : Int) x8_1 a1_0 a1_1 a1_2 = some r) ∧ Aside0 (kq ≤ k) ∧ Aside0 (w'.heap[gb251]? = some (.cells #[.int .i64 a1_0, .int .i64 a1_1, .int .i64 a1_2] 73 (0, 0))) ∧ Aside0 (Below w.heap.size w w'))
 case atStart => exact ⟨(0), rf_, H', ⟨Nat.le_refl _⟩, ⟨nB_ BK251.out⟩, ⟨by repeat (first | (with_reducible first | exact HB.out | apply below_alloc | apply pw_below_drewN | apply below_drew1 | refine below_set ?_ GE251.out) | exact HB.out)⟩⟩
 case round =>
  clear H'
  try clear p2
  obtain ⟨x8_1, rfl, HA, HK1, BK251, HB⟩ := hrel
  cases gk with
  | zero => exact absurd HA.out (by simp [veils_knot.l0])
  | succ k1 =>
   have H := HA.out
   clear HA
   simp only [veils_knot.l0] at H
   by_cases c4 : x8_1 < (l0.length : Int)
   · rw [if_pos c4] at H
     have c4b0 : decide (x8_1 < (l0.length : Int)) = true := decide_eq_true c4
     clear c4
     by_cases c5 : 0 ≤ x8_1
     · rw [if_pos c5] at H
       have c5b0 : decide (0 ≤ x8_1) = true := decide_eq_true c5
       clear c5
       by_cases c6 : x8_1 < (l0.length : Int)
       · rw [if_pos c6] at H
         have c6b0 : decide (x8_1 < (l0.length : Int)) = true := decide_eq_true c6
         clear c6
         by_cases c7 : (a1_0 == ((rd_T73 l0 x8_1).f0) && (a1_1 == ((rd_T73 l0 x8_1).f1) && (a1_2 == ((rd_T73 l0 x8_1).f2)))) = true
         · rw [if_pos c7] at H
           have c7b0 : (a1_0 == ((rd_T73 l0 x8_1).f0) && (a1_1 == ((rd_T73 l0 x8_1).f1) && (a1_2 == ((rd_T73 l0 x8_1).f2)))) = true := c7
           (try (have c7b1 : decide (a1_0 = ((rd_T73 l0 x8_1).f0) && (a1_1 == ((rd_T73 l0 x8_1).f1) && (a1_2 == ((rd_T73 l0 x8_1).f2)))) = true := by simpa using c7))
           (try (have c7b2 : (a1_0 == ((rd_T73 l0 x8_1).f0) && (a1_1 == ((rd_T73 l0 x8_1).f1) && (a1_2 == ((rd_T73 l0 x8_1).f2)))) = true := by simpa using c7))
           clear c7
           obtain rfl := Option.some.inj H
           have hcz8_0 : wr.cell? ⟨gb251, 0, none⟩ = some (.int .i64 a1_0) := (blk_cell BK251.out 0).trans rfl
           have hcz8_1 : wr.cell? ⟨gb251, 1, none⟩ = some (.int .i64 a1_1) := (blk_cell BK251.out 1).trans rfl
           have hcz8_2 : wr.cell? ⟨gb251, 2, none⟩ = some (.int .i64 a1_2) := (blk_cell BK251.out 2).trans rfl
           have hfz8_0 := blk_frozen BK251.out 0
           have hfz8_1 := blk_frozen BK251.out 1
           have hfz8_2 := blk_frozen BK251.out 2
           have p252 : 0 ≤ (x8_1 : Int) := od_
           have q252 : x8_1 < (l0.length : Int) := od_
           obtain ⟨ad252, e252, hx252_0, hx252_1, hx252_2⟩ := at_T73 HR0.out x8_1 p252 q252
           cases e252
           replace hx252_0 := (HB.out.cell (World.block_lt_of_cell? w _ hx252_0)).trans hx252_0
           replace hx252_1 := (HB.out.cell (World.block_lt_of_cell? w _ hx252_1)).trans hx252_1
           replace hx252_2 := (HB.out.cell (World.block_lt_of_cell? w _ hx252_2)).trans hx252_2
           replace p252 := eq_true p252
           replace q252 := eq_true q252
           go_wp2
           repeat (go_quiet (fail); try go_wp2)
           go_ret
           exact ⟨er_, by repeat (first | (with_reducible first | exact HB.out | apply below_alloc | apply pw_below_drewN | apply below_drew1 | refine below_set ?_ GE251.out) | exact HB.out)⟩
         · rw [if_neg c7] at H
           have c7b0 : (a1_0 == ((rd_T73 l0 x8_1).f0) && (a1_1 == ((rd_T73 l0 x8_1).f1) && (a1_2 == ((rd_T73 l0 x8_1).f2)))) = false := by simpa using c7
           (try (have c7b1 : decide (a1_0 = ((rd_T73 l0 x8_1).f0) && (a1_1 == ((rd_T73 l0 x8_1).f1) && (a1_2 == ((rd_T73 l0 x8_1).f2)))) = false := by simpa using c7))
           (try (have c7b2 : (a1_0 == ((rd_T73 l0 x8_1).f0) && (a1_1 == ((rd_T73 l0 x8_1).f1) && (a1_2 == ((rd_T73 l0 x8_1).f2)))) = false := by simpa using c7))
           (try (have c7b3 : ¬ (a1_0 = ((rd_T73 l0 x8_1).f0) && (a1_1 == ((rd_T73 l0 x8_1).f1) && (a1_2 == ((rd_T73 l0 x8_1).f2)))) := by simpa using c7))
           clear c7
           have H' := Aside0.mk H
           clear H
           have hcz9_0 : wr.cell? ⟨gb251, 0, none⟩ = some (.int .i64 a1_0) := (blk_cell BK251.out 0).trans rfl
           have hcz9_1 : wr.cell? ⟨gb251, 1, none⟩ = some (.int .i64 a1_1) := (blk_cell BK251.out 1).trans rfl
           have hcz9_2 : wr.cell? ⟨gb251, 2, none⟩ = some (.int .i64 a1_2) := (blk_cell BK251.out 2).trans rfl
           have hfz9_0 := blk_frozen BK251.out 0
           have hfz9_1 := blk_frozen BK251.out 1
           have hfz9_2 := blk_frozen BK251.out 2
           have p252 : 0 ≤ (x8_1 : Int) := od_
           have q252 : x8_1 < (l0.length : Int) := od_
           obtain ⟨ad252, e252, hx252_0, hx252_1, hx252_2⟩ := at_T73 HR0.out x8_1 p252 q252
           cases e252
           replace hx252_0 := (HB.out.cell (World.block_lt_of_cell? w _ hx252_0)).trans hx252_0
           replace hx252_1 := (HB.out.cell (World.block_lt_of_cell? w _ hx252_1)).trans hx252_1
           replace hx252_2 := (HB.out.cell (World.block_lt_of_cell? w _ hx252_2)).trans hx252_2
           replace p252 := eq_true p252
           replace q252 := eq_true q252
           go_wp2
           repeat (go_quiet (fail); try go_wp2)
           go_roundg k1
           case measure => have := HK1.out; omega
           case rel => exact ⟨(wrap64 (x8_1 + 1)), rf_, H', ⟨by have := HK1.out; omega⟩, ⟨nB_ BK251.out⟩, ⟨by repeat (first | (with_reducible first | exact HB.out | apply below_alloc | apply pw_below_drewN | apply below_drew1 | refine below_set ?_ GE251.out) | exact HB.out)⟩⟩
       · rw [if_neg c6] at H
         exact absurd H (by simp)
     · rw [if_neg c5] at H
       exact absurd H (by simp)
   · rw [if_neg c4] at H
     have c4b0 : decide (x8_1 < (l0.length : Int)) = false := decide_eq_false c4
     clear c4
     obtain rfl := Option.some.inj H
     go_wp2
     repeat (go_quiet (fail); try go_wp2)
     go_ret
     exact ⟨er_, by repeat (first | (with_reducible first | exact HB.out | apply below_alloc | apply pw_below_drewN | apply below_drew1 | refine below_set ?_ GE251.out) | exact HB.out)⟩

end Go.Proofs.Ytdinepghommchaa.V

-- Written by a program of this session over the kit's printer: wip/gp.py.
namespace Go.Proofs.Ytdinepghommchaa.V
open Go.RowKit Go.Proofs.YtdinepghommchaaW.PrintWords Go.Proofs.YtdinepghommchaaW.PrintLast Go.Proofs.YtdinepghommchaaW.PrintMore
attribute [local go_sem] max2_int min2_int max_two min_two max_three min_three max_four min_four   -- for this text's walks alone
set_option linter.unusedVariables false
set_option linter.unusedSimpArgs false

/-! ### veils_knot_step: function 78 -/
def veils_knot_step.f (a0_0 : Int) (a0_1 : Int) (a0_2 : Int) : Option (Int × Int × Int) := if a0_2 = 0 then (some (wrap64 (a0_0 - 1), a0_1, Int.tmod (wrap64 (a0_2 + 2)) 4)) else (if a0_2 = 1 then (some (a0_0, wrap64 (a0_1 + 1), Int.tmod (wrap64 (a0_2 + 2)) 4)) else (if a0_2 = 2 then (some (wrap64 (a0_0 + 1), a0_1, Int.tmod (wrap64 (a0_2 + 2)) 4)) else (some (a0_0, wrap64 (a0_1 - 1), Int.tmod (wrap64 (a0_2 + 2)) 4))))
set_option maxHeartbeats 8000000 in
set_option maxRecDepth 100000 in
theorem veils_knot_step.calls (a0_0 : Int) (a0_1 : Int) (a0_2 : Int) (r1 : Int) (r2 : Int) (r3 : Int) (w : World) (h : veils_knot_step.f a0_0 a0_1 a0_2 = some (r1, r2, r3)) :
 Calls Try.prog 78 #[.agg #[.int .i64 a0_0, .int .i64 a0_1, .int .i64 a0_2]] w fun e w' => e = .returned (.agg #[.int .i64 r1, .int .i64 r2, .int .i64 r3]) ∧ Below w.heap.size w w' := by
 have hu73 := Try.underlying73
 have HB := Aside0.mk (Below.refl w.heap.size w)
 have H : (if a0_2 = 0 then (some (wrap64 (a0_0 - 1), a0_1, Int.tmod (wrap64 (a0_2 + 2)) 4)) else (if a0_2 = 1 then (some (a0_0, wrap64 (a0_1 + 1), Int.tmod (wrap64 (a0_2 + 2)) 4)) else (if a0_2 = 2 then (some (wrap64 (a0_0 + 1), a0_1, Int.tmod (wrap64 (a0_2 + 2)) 4)) else (some (a0_0, wrap64 (a0_1 - 1), Int.tmod (wrap64 (a0_2 + 2)) 4))))) = some (r1, r2, r3) := h
 clear h
 by_cases c2 : a0_2 = 0
 · rw [if_pos c2] at H
   have c2b0 : (a0_2 == 0) = true := beq_iff_eq.mpr c2
   have c2b1 : (a0_2 != 0) = false := bne_eq_false_iff_eq.mpr c2
   clear c2
   simp only [Option.some.injEq, Prod.mk.injEq] at H
   obtain ⟨rfl, rfl, rfl⟩ := H
   go_enter Try.func78, Try.ntmps78
   go_wp2_with (first | ((with_reducible refine gate_dst (N := 1) rfl ?_); refine box_event ?hg (N := 1) ?hd (cs := #[.int .i64 a0_0, .int .i64 a0_1, .int .i64 a0_2]) (t := 73) ?hr ?_; (case hd => rfl); (case hg => rfl); (case hr => first | (go_simp; done) | (go_simp; rfl)); intro gb278 hg w3 hbox hb; have n0_ := Aside0.mk (below_step (bel_) hb); have n1_ := Aside0.mk (hbox); have n2_ := Aside0.mk ((by rw [hg]; exact (below_size (bel_)) : w.heap.size ≤ gb278)); have n3_ := Aside0.mk ((by rw [hg]; exact (below_size (bel_)) : w.heap.size ≤ gb278)); clear HB; have HB := n0_; have BK278 := n1_; have GW278 := n2_; have GE278 := n3_; clear n0_ n1_ n2_ n3_; clear hb hbox hg) | ((with_reducible refine gate_dst (N := 2) rfl ?_); refine box_event ?hg (N := 2) ?hd (cs := #[.int .i64 0, .int .i64 0, .int .i64 0]) (t := 73) ?hr ?_; (case hd => rfl); (case hg => rfl); (case hr => first | (go_simp; done) | (go_simp; rfl)); intro gb279 hg w4 hbox hb; have n0_ := Aside0.mk (blk_below (g := gb278) (o := .cells #[.int .i64 a0_0, .int .i64 a0_1, .int .i64 a0_2] 73 (0, 0)) (nB_ BK278.out) hb); have n1_ := Aside0.mk (below_step (belH_) hb); have n2_ := Aside0.mk (hbox); have n3_ := Aside0.mk ((by rw [hg]; exact (below_size (belH_)) : w.heap.size ≤ gb279)); have n4_ := Aside0.mk ((by rw [hg]; exact (below_size (belH_)) : w.heap.size ≤ gb279)); have n5_ := Aside0.mk ((by rw [hg]; exact Nat.ne_of_lt (blk_lt (g := gb278) (o := .cells #[.int .i64 a0_0, .int .i64 a0_1, .int .i64 a0_2] 73 (0, 0)) (nB_ BK278.out)) : gb278 ≠ gb279)); have n6_ := Aside0.mk ((by rw [hg]; exact Nat.ne_of_gt (blk_lt (g := gb278) (o := .cells #[.int .i64 a0_0, .int .i64 a0_1, .int .i64 a0_2] 73 (0, 0)) (nB_ BK278.out)) : gb279 ≠ gb278)); clear BK278; clear HB; have BK278 := n0_; have HB := n1_; have BK279 := n2_; have GW279 := n3_; have GE279 := n4_; have NB278_279 := n5_; have NB279_278 := n6_; clear n0_ n1_ n2_ n3_ n4_ n5_ n6_; clear hb hbox hg; have hnb5 := NB278_279.out; have hnc5 := NB279_278.out; have hcz6_0 : w4.cell? ⟨gb278, 0, none⟩ = some (.int .i64 a0_0) := (blk_cell BK278.out 0).trans rfl; have hcz6_1 : w4.cell? ⟨gb278, 1, none⟩ = some (.int .i64 a0_1) := (blk_cell BK278.out 1).trans rfl; have hcz6_2 : w4.cell? ⟨gb278, 2, none⟩ = some (.int .i64 a0_2) := (blk_cell BK278.out 2).trans rfl; have hfz6_0 := blk_frozen BK278.out 0; have hfz6_1 := blk_frozen BK278.out 1; have hfz6_2 := blk_frozen BK278.out 2; have hcz7_0 : w4.cell? ⟨gb279, 0, none⟩ = some (.int .i64 0) := (blk_cell BK279.out 0).trans rfl; have hcz7_1 : w4.cell? ⟨gb279, 1, none⟩ = some (.int .i64 0) := (blk_cell BK279.out 1).trans rfl; have hcz7_2 : w4.cell? ⟨gb279, 2, none⟩ = some (.int .i64 0) := (blk_cell BK279.out 2).trans rfl; have hfz7_0 := blk_frozen BK279.out 0; have hfz7_1 := blk_frozen BK279.out 1; have hfz7_2 := blk_frozen BK279.out 2))
   refine bodyPost_ret (results_cell_row rfl _ _ gb279 73 #[.int .i64 (wrap64 (a0_0 - 1)), .int .i64 a0_1, .int .i64 (Int.tmod (wrap64 (a0_2 + 2)) 4)] (0, 0) _ rfl (by (with_reducible repeat (first | refine blk_drewN ?_ _ | refine blk_drew ?_ | refine blk_alloc ?_ _)); refine blk_put (cs := #[.int .i64 (wrap64 (a0_0 - 1)), .int .i64 a0_1, .int .i64 0]) ?_ 2 _ rfl; (with_reducible repeat (first | refine blk_drewN ?_ _ | refine blk_drew ?_ | refine blk_alloc ?_ _)); refine blk_put (cs := #[.int .i64 (wrap64 (a0_0 - 1)), .int .i64 0, .int .i64 0]) ?_ 1 _ rfl; (with_reducible repeat (first | refine blk_drewN ?_ _ | refine blk_drew ?_ | refine blk_alloc ?_ _)); refine blk_put (cs := #[.int .i64 0, .int .i64 0, .int .i64 0]) ?_ 0 _ rfl; (with_reducible repeat (first | refine blk_drewN ?_ _ | refine blk_drew ?_ | refine blk_alloc ?_ _)); refine blk_far ?_ NB279_278.out _; (with_reducible repeat (first | refine blk_drewN ?_ _ | refine blk_drew ?_ | refine blk_alloc ?_ _)); refine blk_far ?_ NB279_278.out _; (with_reducible repeat (first | refine blk_drewN ?_ _ | refine blk_drew ?_ | refine blk_alloc ?_ _)); exact BK279.out) Try.underlying73 rfl (by kernel_rfl)) rfl ?_
   exact ⟨er_, by repeat (first | (with_reducible first | exact HB.out | apply below_alloc | apply pw_below_drewN | apply below_drew1 | refine below_set ?_ GE278.out | refine below_set ?_ GE279.out) | exact HB.out)⟩
 · rw [if_neg c2] at H
   have c2b0 : (a0_2 == 0) = false := beq_eq_false_iff_ne.mpr c2
   have c2b1 : (a0_2 != 0) = true := bne_iff_ne.mpr c2
   by_cases c8 : a0_2 = 1
   · rw [if_pos c8] at H
     have c8b0 : (a0_2 == 1) = true := beq_iff_eq.mpr c8
     have c8b1 : (a0_2 != 1) = false := bne_eq_false_iff_eq.mpr c8
     clear c8
     simp only [Option.some.injEq, Prod.mk.injEq] at H
     obtain ⟨rfl, rfl, rfl⟩ := H
     go_enter Try.func78, Try.ntmps78
     go_wp2_with (first | ((with_reducible refine gate_dst (N := 1) rfl ?_); refine box_event ?hg (N := 1) ?hd (cs := #[.int .i64 a0_0, .int .i64 a0_1, .int .i64 a0_2]) (t := 73) ?hr ?_; (case hd => rfl); (case hg => rfl); (case hr => first | (go_simp; done) | (go_simp; rfl)); intro gb278 hg w9 hbox hb; have n0_ := Aside0.mk (below_step (bel_) hb); have n1_ := Aside0.mk (hbox); have n2_ := Aside0.mk ((by rw [hg]; exact (below_size (bel_)) : w.heap.size ≤ gb278)); have n3_ := Aside0.mk ((by rw [hg]; exact (below_size (bel_)) : w.heap.size ≤ gb278)); clear HB; have HB := n0_; have BK278 := n1_; have GW278 := n2_; have GE278 := n3_; clear n0_ n1_ n2_ n3_; clear hb hbox hg) | ((with_reducible refine gate_dst (N := 2) rfl ?_); refine box_event ?hg (N := 2) ?hd (cs := #[.int .i64 0, .int .i64 0, .int .i64 0]) (t := 73) ?hr ?_; (case hd => rfl); (case hg => rfl); (case hr => first | (go_simp; done) | (go_simp; rfl)); intro gb279 hg w10 hbox hb; have n0_ := Aside0.mk (blk_below (g := gb278) (o := .cells #[.int .i64 a0_0, .int .i64 a0_1, .int .i64 a0_2] 73 (0, 0)) (nB_ BK278.out) hb); have n1_ := Aside0.mk (below_step (belH_) hb); have n2_ := Aside0.mk (hbox); have n3_ := Aside0.mk ((by rw [hg]; exact (below_size (belH_)) : w.heap.size ≤ gb279)); have n4_ := Aside0.mk ((by rw [hg]; exact (below_size (belH_)) : w.heap.size ≤ gb279)); have n5_ := Aside0.mk ((by rw [hg]; exact Nat.ne_of_lt (blk_lt (g := gb278) (o := .cells #[.int .i64 a0_0, .int .i64 a0_1, .int .i64 a0_2] 73 (0, 0)) (nB_ BK278.out)) : gb278 ≠ gb279)); have n6_ := Aside0.mk ((by rw [hg]; exact Nat.ne_of_gt (blk_lt (g := gb278) (o := .cells #[.int .i64 a0_0, .int .i64 a0_1, .int .i64 a0_2] 73 (0, 0)) (nB_ BK278.out)) : gb279 ≠ gb278)); clear BK278; clear HB; have BK278 := n0_; have HB := n1_; have BK279 := n2_; have GW279 := n3_; have GE279 := n4_; have NB278_279 := n5_; have NB279_278 := n6_; clear n0_ n1_ n2_ n3_ n4_ n5_ n6_; clear hb hbox hg; have hnb11 := NB278_279.out; have hnc11 := NB279_278.out; have hcz12_0 : w10.cell? ⟨gb278, 0, none⟩ = some (.int .i64 a0_0) := (blk_cell BK278.out 0).trans rfl; have hcz12_1 : w10.cell? ⟨gb278, 1, none⟩ = some (.int .i64 a0_1) := (blk_cell BK278.out 1).trans rfl; have hcz12_2 : w10.cell? ⟨gb278, 2, none⟩ = some (.int .i64 a0_2) := (blk_cell BK278.out 2).trans rfl; have hfz12_0 := blk_frozen BK278.out 0; have hfz12_1 := blk_frozen BK278.out 1; have hfz12_2 := blk_frozen BK278.out 2; have hcz13_0 : w10.cell? ⟨gb279, 0, none⟩ = some (.int .i64 0) := (blk_cell BK279.out 0).trans rfl; have hcz13_1 : w10.cell? ⟨gb279, 1, none⟩ = some (.int .i64 0) := (blk_cell BK279.out 1).trans rfl; have hcz13_2 : w10.cell? ⟨gb279, 2, none⟩ = some (.int .i64 0) := (blk_cell BK279.out 2).trans rfl; have hfz13_0 := blk_frozen BK279.out 0; have hfz13_1 := blk_frozen BK279.out 1; have hfz13_2 := blk_frozen BK279.out 2))
     refine bodyPost_ret (results_cell_row rfl _ _ gb279 73 #[.int .i64 a0_0, .int .i64 (wrap64 (a0_1 + 1)), .int .i64 (Int.tmod (wrap64 (a0_2 + 2)) 4)] (0, 0) _ rfl (by (with_reducible repeat (first | refine blk_drewN ?_ _ | refine blk_drew ?_ | refine blk_alloc ?_ _)); refine blk_put (cs := #[.int .i64 a0_0, .int .i64 (wrap64 (a0_1 + 1)), .int .i64 0]) ?_ 2 _ rfl; (with_reducible repeat (first | refine blk_drewN ?_ _ | refine blk_drew ?_ | refine blk_alloc ?_ _)); refine blk_put (cs := #[.int .i64 a0_0, .int .i64 0, .int .i64 0]) ?_ 1 _ rfl; (with_reducible repeat (first | refine blk_drewN ?_ _ | refine blk_drew ?_ | refine blk_alloc ?_ _)); refine blk_put (cs := #[.int .i64 0, .int .i64 0, .int .i64 0]) ?_ 0 _ rfl; (with_reducible repeat (first | refine blk_drewN ?_ _ | refine blk_drew ?_ | refine blk_alloc ?_ _)); refine blk_far ?_ NB279_278.out _; (with_reducible repeat (first | refine blk_drewN ?_ _ | refine blk_drew ?_ | refine blk_alloc ?_ _)); refine blk_far ?_ NB279_278.out _; (with_reducible repeat (first | refine blk_drewN ?_ _ | refine blk_drew ?_ | refine blk_alloc ?_ _)); exact BK279.out) Try.underlying73 rfl (by kernel_rfl)) rfl ?_
     exact ⟨er_, by repeat (first | (with_reducible first | exact HB.out | apply below_alloc | apply pw_below_drewN | apply below_drew1 | refine below_set ?_ GE278.out | refine below_set ?_ GE279.out) | exact HB.out)⟩
   · rw [if_neg c8] at H
     have c8b0 : (a0_2 == 1) = false := beq_eq_false_iff_ne.mpr c8
     have c8b1 : (a0_2 != 1) = true := bne_iff_ne.mpr c8
     by_cases c14 : a0_2 = 2
     · rw [if_pos c14] at H
       have c14b0 : (a0_2 == 2) = true := beq_iff_eq.mpr c14
       have c14b1 : (a0_2 != 2) = false := bne_eq_false_iff_eq.mpr c14
       clear c14
       simp only [Option.some.injEq, Prod.mk.injEq] at H
       obtain ⟨rfl, rfl, rfl⟩ := H
       go_enter Try.func78, Try.ntmps78
       go_wp2_with (first | ((with_reducible refine gate_dst (N := 1) rfl ?_); refine box_event ?hg (N := 1) ?hd (cs := #[.int .i64 a0_0, .int .i64 a0_1, .int .i64 a0_2]) (t := 73) ?hr ?_; (case hd => rfl); (case hg => rfl); (case hr => first | (go_simp; done) | (go_simp; rfl)); intro gb278 hg w15 hbox hb; have n0_ := Aside0.mk (below_step (bel_) hb); have n1_ := Aside0.mk (hbox); have n2_ := Aside0.mk ((by rw [hg]; exact (below_size (bel_)) : w.heap.size ≤ gb278)); have n3_ := Aside0.mk ((by rw [hg]; exact (below_size (bel_)) : w.heap.size ≤ gb278)); clear HB; have HB := n0_; have BK278 := n1_; have GW278 := n2_; have GE278 := n3_; clear n0_ n1_ n2_ n3_; clear hb hbox hg) | ((with_reducible refine gate_dst (N := 2) rfl ?_); refine box_event ?hg (N := 2) ?hd (cs := #[.int .i64 0, .int .i64 0, .int .i64 0]) (t := 73) ?hr ?_; (case hd => rfl); (case hg => rfl); (case hr => first | (go_simp; done) | (go_simp; rfl)); intro gb279 hg w16 hbox hb; have n0_ := Aside0.mk (blk_below (g := gb278) (o := .cells #[.int .i64 a0_0, .int .i64 a0_1, .int .i64 a0_2] 73 (0, 0)) (nB_ BK278.out) hb); have n1_ := Aside0.mk (below_step (belH_) hb); have n2_ := Aside0.mk (hbox); have n3_ := Aside0.mk ((by rw [hg]; exact (below_size (belH_)) : w.heap.size ≤ gb279)); have n4_ := Aside0.mk ((by rw [hg]; exact (below_size (belH_)) : w.heap.size ≤ gb279)); have n5_ := Aside0.mk ((by rw [hg]; exact Nat.ne_of_lt (blk_lt (g := gb278) (o := .cells #[.int .i64 a0_0, .int .i64 a0_1, .int .i64 a0_2] 73 (0, 0)) (nB_ BK278.out)) : gb278 ≠ gb279)); have n6_ := Aside0.mk ((by rw [hg]; exact Nat.ne_of_gt (blk_lt (g := gb278) (o := .cells #[.int .i64 a0_0, .int .i64 a0_1, .int .i64 a0_2] 73 (0, 0)) (nB_ BK278.out)) : gb279 ≠ gb278)); clear BK278; clear HB; have BK278 := n0_; have HB := n1_; have BK279 := n2_; have GW279 := n3_; have GE279 := n4_; have NB278_279 := n5_; have NB279_278 := n6_; clear n0_ n1_ n2_ n3_ n4_ n5_ n6_; clear hb hbox hg; have hnb17 := NB278_279.out; have hnc17 := NB279_278.out; have hcz18_0 : w16.cell? ⟨gb278, 0, none⟩ = some (.int .i64 a0_0) := (blk_cell BK278.out 0).trans rfl; have hcz18_1 : w16.cell? ⟨gb278, 1, none⟩ = some (.int .i64 a0_1) := (blk_cell BK278.out 1).trans rfl; have hcz18_2 : w16.cell? ⟨gb278, 2, none⟩ = some (.int .i64 a0_2) := (blk_cell BK278.out 2).trans rfl; have hfz18_0 := blk_frozen BK278.out 0; have hfz18_1 := blk_frozen BK278.out 1; have hfz18_2 := blk_frozen BK278.out 2; have hcz19_0 : w16.cell? ⟨gb279, 0, none⟩ = some (.int .i64 0) := (blk_cell BK279.out 0).trans rfl; have hcz19_1 : w16.cell? ⟨gb279, 1, none⟩ = some (.int .i64 0) := (blk_cell BK279.out 1).trans rfl; have hcz19_2 : w16.cell? ⟨gb279, 2, none⟩ = some (.int .i64 0) := (blk_cell BK279.out 2).trans rfl; have hfz19_0 := blk_frozen BK279.out 0; have hfz19_1 := blk_frozen BK279.out 1; have hfz19_2 := blk_frozen BK279.out 2))
       refine bodyPost_ret (results_cell_row rfl _ _ gb279 73 #[.int .i64 (wrap64 (a0_0 + 1)), .int .i64 a0_1, .int .i64 (Int.tmod (wrap64 (a0_2 + 2)) 4)] (0, 0) _ rfl (by (with_reducible repeat (first | refine blk_drewN ?_ _ | refine blk_drew ?_ | refine blk_alloc ?_ _)); refine blk_put (cs := #[.int .i64 (wrap64 (a0_0 + 1)), .int .i64 a0_1, .int .i64 0]) ?_ 2 _ rfl; (with_reducible repeat (first | refine blk_drewN ?_ _ | refine blk_drew ?_ | refine blk_alloc ?_ _)); refine blk_put (cs := #[.int .i64 (wrap64 (a0_0 + 1)), .int .i64 0, .int .i64 0]) ?_ 1 _ rfl; (with_reducible repeat (first | refine blk_drewN ?_ _ | refine blk_drew ?_ | refine blk_alloc ?_ _)); refine blk_put (cs := #[.int .i64 0, .int .i64 0, .int .i64 0]) ?_ 0 _ rfl; (with_reducible repeat (first | refine blk_drewN ?_ _ | refine blk_drew ?_ | refine blk_alloc ?_ _)); refine blk_far ?_ NB279_278.out _; (with_reducible repeat (first | refine blk_drewN ?_ _ | refine blk_drew ?_ | refine blk_alloc ?_ _)); refine blk_far ?_ NB279_278.out _; (with_reducible repeat (first | refine blk_drewN ?_ _ | refine blk_drew ?_ | refine blk_alloc ?_ _)); exact BK279.out) Try.underlying73 rfl (by kernel_rfl)) rfl ?_
       exact ⟨er_, by repeat (first | (with_reducible first | exact HB.out | apply below_alloc | apply pw_below_drewN | apply below_drew1 | refine below_set ?_ GE278.out | refine below_set ?_ GE279.out) | exact HB.out)⟩
     · rw [if_neg c14] at H
       have c14b0 : (a0_2 == 2) = false := beq_eq_false_iff_ne.mpr c14
       have c14b1 : (a0_2 != 2) = true := bne_iff_ne.mpr c14
       simp only [Option.some.injEq, Prod.mk.injEq] at H
       obtain ⟨rfl, rfl, rfl⟩ := H
       go_enter Try.func78, Try.ntmps78
       go_wp2_with (first | ((with_reducible refine gate_dst (N := 1) rfl ?_); refine box_event ?hg (N := 1) ?hd (cs := #[.int .i64 a0_0, .int .i64 a0_1, .int .i64 a0_2]) (t := 73) ?hr ?_; (case hd => rfl); (case hg => rfl); (case hr => first | (go_simp; done) | (go_simp; rfl)); intro gb278 hg w20 hbox hb; have n0_ := Aside0.mk (below_step (bel_) hb); have n1_ := Aside0.mk (hbox); have n2_ := Aside0.mk ((by rw [hg]; exact (below_size (bel_)) : w.heap.size ≤ gb278)); have n3_ := Aside0.mk ((by rw [hg]; exact (below_size (bel_)) : w.heap.size ≤ gb278)); clear HB; have HB := n0_; have BK278 := n1_; have GW278 := n2_; have GE278 := n3_; clear n0_ n1_ n2_ n3_; clear hb hbox hg) | ((with_reducible refine gate_dst (N := 2) rfl ?_); refine box_event ?hg (N := 2) ?hd (cs := #[.int .i64 0, .int .i64 0, .int .i64 0]) (t := 73) ?hr ?_; (case hd => rfl); (case hg => rfl); (case hr => first | (go_simp; done) | (go_simp; rfl)); intro gb279 hg w21 hbox hb; have n0_ := Aside0.mk (blk_below (g := gb278) (o := .cells #[.int .i64 a0_0, .int .i64 a0_1, .int .i64 a0_2] 73 (0, 0)) (nB_ BK278.out) hb); have n1_ := Aside0.mk (below_step (belH_) hb); have n2_ := Aside0.mk (hbox); have n3_ := Aside0.mk ((by rw [hg]; exact (below_size (belH_)) : w.heap.size ≤ gb279)); have n4_ := Aside0.mk ((by rw [hg]; exact (below_size (belH_)) : w.heap.size ≤ gb279)); have n5_ := Aside0.mk ((by rw [hg]; exact Nat.ne_of_lt (blk_lt (g := gb278) (o := .cells #[.int .i64 a0_0, .int .i64 a0_1, .int .i64 a0_2] 73 (0, 0)) (nB_ BK278.out)) : gb278 ≠ gb279)); have n6_ := Aside0.mk ((by rw [hg]; exact Nat.ne_of_gt (blk_lt (g := gb278) (o := .cells #[.int .i64 a0_0, .int .i64 a0_1, .int .i64 a0_2] 73 (0, 0)) (nB_ BK278.out)) : gb279 ≠ gb278)); clear BK278; clear HB; have BK278 := n0_; have HB := n1_; have BK279 := n2_; have GW279 := n3_; have GE279 := n4_; have NB278_279 := n5_; have NB279_278 := n6_; clear n0_ n1_ n2_ n3_ n4_ n5_ n6_; clear hb hbox hg; have hnb22 := NB278_279.out; have hnc22 := NB279_278.out; have hcz23_0 : w21.cell? ⟨gb278, 0, none⟩ = some (.int .i64 a0_0) := (blk_cell BK278.out 0).trans rfl; have hcz23_1 : w21.cell? ⟨gb278, 1, none⟩ = some (.int .i64 a0_1) := (blk_cell BK278.out 1).trans rfl; have hcz23_2 : w21.cell? ⟨gb278, 2, none⟩ = some (.int .i64 a0_2) := (blk_cell BK278.out 2).trans rfl; have hfz23_0 := blk_frozen BK278.out 0; have hfz23_1 := blk_frozen BK278.out 1; have hfz23_2 := blk_frozen BK278.out 2; have hcz24_0 : w21.cell? ⟨gb279, 0, none⟩ = some (.int .i64 0) := (blk_cell BK279.out 0).trans rfl; have hcz24_1 : w21.cell? ⟨gb279, 1, none⟩ = some (.int .i64 0) := (blk_cell BK279.out 1).trans rfl; have hcz24_2 : w21.cell? ⟨gb279, 2, none⟩ = some (.int .i64 0) := (blk_cell BK279.out 2).trans rfl; have hfz24_0 := blk_frozen BK279.out 0; have hfz24_1 := blk_frozen BK279.out 1; have hfz24_2 := blk_frozen BK279.out 2))
       refine bodyPost_ret (results_cell_row rfl _ _ gb279 73 #[.int .i64 a0_0, .int .i64 (wrap64 (a0_1 - 1)), .int .i64 (Int.tmod (wrap64 (a0_2 + 2)) 4)] (0, 0) _ rfl (by (with_reducible repeat (first | refine blk_drewN ?_ _ | refine blk_drew ?_ | refine blk_alloc ?_ _)); refine blk_put (cs := #[.int .i64 a0_0, .int .i64 (wrap64 (a0_1 - 1)), .int .i64 0]) ?_ 2 _ rfl; (with_reducible repeat (first | refine blk_drewN ?_ _ | refine blk_drew ?_ | refine blk_alloc ?_ _)); refine blk_put (cs := #[.int .i64 a0_0, .int .i64 0, .int .i64 0]) ?_ 1 _ rfl; (with_reducible repeat (first | refine blk_drewN ?_ _ | refine blk_drew ?_ | refine blk_alloc ?_ _)); refine blk_put (cs := #[.int .i64 0, .int .i64 0, .int .i64 0]) ?_ 0 _ rfl; (with_reducible repeat (first | refine blk_drewN ?_ _ | refine blk_drew ?_ | refine blk_alloc ?_ _)); refine blk_far ?_ NB279_278.out _; (with_reducible repeat (first | refine blk_drewN ?_ _ | refine blk_drew ?_ | refine blk_alloc ?_ _)); refine blk_far ?_ NB279_278.out _; (with_reducible repeat (first | refine blk_drewN ?_ _ | refine blk_drew ?_ | refine blk_alloc ?_ _)); exact BK279.out) Try.underlying73 rfl (by kernel_rfl)) rfl ?_
       exact ⟨er_, by repeat (first | (with_reducible first | exact HB.out | apply below_alloc | apply pw_below_drewN | apply below_drew1 | refine below_set ?_ GE278.out | refine below_set ?_ GE279.out) | exact HB.out)⟩

end Go.Proofs.Ytdinepghommchaa.V

-- Written by a program of this session over the kit's printer: wip/gp.py.
namespace Go.Proofs.Ytdinepghommchaa.V
open Go.RowKit Go.Proofs.YtdinepghommchaaW.PrintWords Go.Proofs.YtdinepghommchaaW.PrintLast Go.Proofs.YtdinepghommchaaW.PrintMore
attribute [local go_sem] max2_int min2_int max_two min_two max_three min_three max_four min_four   -- for this text's walks alone
set_option linter.unusedVariables false
set_option linter.unusedSimpArgs false

/-! ### veils_heights_follow: function 67 -/
mutual
def veils_heights_follow.l0 : Nat → List (List Int) → Int → Int → Int → Int → Option (Int × Int × Int)
 | 0, _, _, _, _, _ => none
 | k + 1, x0, x5, x281000, x281001, x281002 => veils_heights_follow.l1 k x0 x5 x281002 0 x281000 x281001 x281002
def veils_heights_follow.l1 : Nat → List (List Int) → Int → Int → Int → Int → Int → Int → Option (Int × Int × Int)
 | 0, _, _, _, _, _, _, _ => none
 | k + 1, x0, x5, x6, x13, x281000, x281001, x281002 => if x13 < 4 then (if x13 = x6 then (veils_heights_follow.l1 k x0 x5 x6 (wrap64 (x13 + 1)) x281000 x281001 x281002) else ((veils_heights_thread.f x0 x281000 x281001 x13).bind fun t283 => (if t283 = true then ((veils_knot_step.f x281000 x281001 x13).bind fun bt284 => (if (mn bt284.1 bt284.2.1) < 1 then (some (x281000, x281001, x13)) else (if (mx bt284.1 bt284.2.1) > x5 then (some (x281000, x281001, x13)) else (veils_heights_follow.l0 k x0 x5 bt284.1 bt284.2.1 bt284.2.2)))) else (veils_heights_follow.l1 k x0 x5 x6 (wrap64 (x13 + 1)) x281000 x281001 x281002)))) else ((veils_knot_step.f x281000 x281001 x281002).bind fun bt288 => (if (mn bt288.1 bt288.2.1) < 1 then (some (x281000, x281001, x281002)) else (if (mx bt288.1 bt288.2.1) > x5 then (some (x281000, x281001, x281002)) else (veils_heights_follow.l0 k x0 x5 bt288.1 bt288.2.1 bt288.2.2))))
end
def veils_heights_follow.f (k : Nat) (l0 : List (List Int)) (a1_0 : Int) (a1_1 : Int) (a1_2 : Int) : Option (Int × Int × Int) := (veils_heights_size.f l0).bind fun t282 => (veils_heights_follow.l0 k l0 t282 a1_0 a1_1 a1_2)
set_option maxHeartbeats 8000000 in
set_option maxRecDepth 100000 in
theorem veils_heights_follow.calls (k : Nat) (A0 : Option Addr) (c0 : Nat) (l0 : List (List Int)) (a1_0 : Int) (a1_1 : Int) (a1_2 : Int) (r1 : Int) (r2 : Int) (r3 : Int) (w : World) (hr0 : Kd.C (Kd.slice 3 (Kd.int .i64)) w A0 l0.length l0) (hc0 : l0.length ≤ c0) (h : veils_heights_follow.f k l0 a1_0 a1_1 a1_2 = some (r1, r2, r3)) :
 Calls Try.prog 67 #[.slice A0 l0.length c0, .agg #[.int .i64 a1_0, .int .i64 a1_1, .int .i64 a1_2]] w fun e w' => e = .returned (.agg #[.int .i64 r1, .int .i64 r2, .int .i64 r3]) ∧ Below w.heap.size w w' := by
 have hu73 := Try.underlying73
 have HR0 := Aside0.mk hr0
 have HC0 := Aside0.mk hc0
 clear hr0 hc0
 have HB := Aside0.mk (Below.refl w.heap.size w)
 have H : ((veils_heights_size.f l0).bind fun t282 => (veils_heights_follow.l0 k l0 t282 a1_0 a1_1 a1_2)) = some (r1, r2, r3) := h
 clear h
 replace H := Option.bind_eq_some_iff.mp H
 obtain ⟨t282, A30, H⟩ := H
 replace H : (veils_heights_follow.l0 k l0 t282 a1_0 a1_1 a1_2) = some (r1, r2, r3) := H
 have A3 := Aside0.mk A30
 clear A30
 have H' := Aside0.mk H
 clear H
 go_enter Try.func67, Try.ntmps67
 go_wp2_with (first | ((with_reducible refine gate_dst (N := 3) rfl ?_); (try (refine gate_guard (by rfl) ?_; dsimp only)); refine box_event ?hg (N := 3) ?hd (cs := #[.int .i64 a1_0, .int .i64 a1_1, .int .i64 a1_2]) (t := 73) ?hr ?_; (case hd => rfl); (case hg => rfl); (case hr => first | (go_simp; done) | (go_simp; rfl)); intro gb280 hg w4 hbox hb; have n0_ := Aside0.mk (below_step (bel_) hb); have n1_ := Aside0.mk (hbox); have n2_ := Aside0.mk ((by rw [hg]; exact (below_size (bel_)) : w.heap.size ≤ gb280)); have n3_ := Aside0.mk ((by rw [hg]; exact (below_size (bel_)) : w.heap.size ≤ gb280)); clear HB; have HB := n0_; have BK280 := n1_; have GW280 := n2_; have GE280 := n3_; clear n0_ n1_ n2_ n3_; clear hb hbox hg) | ((with_reducible refine gate_dst (N := 4) rfl ?_); (try (refine gate_guard (by rfl) ?_; dsimp only)); refine box_event ?hg (N := 4) ?hd (cs := #[.int .i64 0, .int .i64 0, .int .i64 0]) (t := 73) ?hr ?_; (case hd => rfl); (case hg => rfl); (case hr => first | (go_simp; done) | (go_simp; rfl)); intro gb281 hg w5 hbox hb; have n0_ := Aside0.mk (blk_below (g := gb280) (o := .cells #[.int .i64 a1_0, .int .i64 a1_1, .int .i64 a1_2] 73 (0, 0)) (nB_ BK280.out) hb); have n1_ := Aside0.mk (below_step (by repeat (first | (with_reducible first | exact HB.out | apply below_alloc | apply pw_below_drewN | apply below_drew1 | refine below_set ?_ GE280.out) | exact HB.out)) hb); have n2_ := Aside0.mk (hbox); have n3_ := Aside0.mk ((by rw [hg]; exact (below_size (by repeat (first | (with_reducible first | exact HB.out | apply below_alloc | apply pw_below_drewN | apply below_drew1 | refine below_set ?_ GE280.out) | exact HB.out))) : w.heap.size ≤ gb281)); have n4_ := Aside0.mk ((by rw [hg]; exact (below_size (by repeat (first | (with_reducible first | exact HB.out | apply below_alloc | apply pw_below_drewN | apply below_drew1 | refine below_set ?_ GE280.out) | exact HB.out))) : w.heap.size ≤ gb281)); have n5_ := Aside0.mk ((by rw [hg]; exact Nat.ne_of_lt (blk_lt (g := gb280) (o := .cells #[.int .i64 a1_0, .int .i64 a1_1, .int .i64 a1_2] 73 (0, 0)) (nB_ BK280.out)) : gb280 ≠ gb281)); have n6_ := Aside0.mk ((by rw [hg]; exact Nat.ne_of_gt (blk_lt (g := gb280) (o := .cells #[.int .i64 a1_0, .int .i64 a1_1, .int .i64 a1_2] 73 (0, 0)) (nB_ BK280.out)) : gb281 ≠ gb280)); clear BK280; clear HB; have BK280 := n0_; have HB := n1_; have BK281 := n2_; have GW281 := n3_; have GE281 := n4_; have NB280_281 := n5_; have NB281_280 := n6_; clear n0_ n1_ n2_ n3_ n4_ n5_ n6_; clear hb hbox hg) | ((with_reducible refine gate_callee (f := 74) rfl ?_); refine goesL_ (some 10) rfl rfl Try.func74 (by kernel_rfl) rfl #[.slice A0 l0.length c0] rfl ar_ ?_; (with_reducible refine (veils_heights_size.calls _ _ l0 t282 _ ?side1 ?side2 A3.out).mono ?_); (case side1 => repeat (first | exact (Kd.C_below HR0.out HB.out) | (with_reducible refine Kd.C_alloc ?_ _) | (with_reducible refine Kd.C_drewN ?_ _) | (with_reducible refine Kd.C_drew ?_))); (case side2 => exact HC0.out); rintro e w' ⟨rfl, ⟨nd, rfl⟩⟩; refine ⟨_, rfl, ?_⟩))
 go_loopg [] k (fun kq w' => ∃ (x281000_1 : Int) (x281001_1 : Int) (x281002_1 : Int) (x282000_1 : Int) (x282001_1 : Int) (x282002_1 : Int), Aside0 (veils_heights_follow.l0 kq l0 t282 x281000_1 x281001_1 x281002_1 = some (r1, r2, r3)) ∧ Aside0 (kq ≤ k) ∧ Aside0 (w'.heap[gb280]? = some (.cells #[.int .i64 x281000_1, .int .i64 x281001_1, .int .i64 x281002_1] 73 (0, 0))) ∧ Aside0 (w'.heap[gb281]? = some (.cells #[.int .i64 x282000_1, .int .i64 x282001_1, .int .i64 x282002_1] 73 (0, 0))) ∧ Aside0 (Below w.heap.size w w'))
 case atStart => exact ⟨(a1_0), (a1_1), (a1_2), (0), (0), (0), H', ⟨Nat.le_refl _⟩, ⟨nB_ BK280.out⟩, ⟨nB_ BK281.out⟩, ⟨belG_⟩⟩
 case round =>
  clear H'
  try clear p2
  obtain ⟨x281000_1, x281001_1, x281002_1, x282000_1, x282001_1, x282002_1, HA, HK1, BK280, BK281, HB⟩ := hrel
  cases gk with
  | zero => exact absurd HA.out (by simp [veils_heights_follow.l0])
  | succ k1 =>
   have H := HA.out
   clear HA
   simp only [veils_heights_follow.l0] at H
   have H' := Aside0.mk H
   clear H
   have hnb6 := NB280_281.out
   have hnc6 := NB281_280.out
   have hcz7_0 : wr.cell? ⟨gb280, 0, none⟩ = some (.int .i64 x281000_1) := (blk_cell BK280.out 0).trans rfl
   have hcz7_1 : wr.cell? ⟨gb280, 1, none⟩ = some (.int .i64 x281001_1) := (blk_cell BK280.out 1).trans rfl
   have hcz7_2 : wr.cell? ⟨gb280, 2, none⟩ = some (.int .i64 x281002_1) := (blk_cell BK280.out 2).trans rfl
   have hfz7_0 := blk_frozen BK280.out 0
   have hfz7_1 := blk_frozen BK280.out 1
   have hfz7_2 := blk_frozen BK280.out 2
   go_wp2
   go_loopg [13] k1 (fun kq v13 w' => ∃ (x13_2 : Int) (x281002_2 : Int), v13 = .int .i64 x13_2 ∧ Aside0 (veils_heights_follow.l1 kq l0 t282 x281002_1 x13_2 x281000_1 x281001_1 x281002_2 = some (r1, r2, r3)) ∧ Aside0 (kq ≤ k1) ∧ Aside0 (w'.heap[gb280]? = some (.cells #[.int .i64 x281000_1, .int .i64 x281001_1, .int .i64 x281002_2] 73 (0, 0))) ∧ Aside0 (w'.heap[gb281]? = some (.cells #[.int .i64 x282000_1, .int .i64 x282001_1, .int .i64 x282002_1] 73 (0, 0))) ∧ Aside0 (Below w.heap.size w w'))
   case atStart => exact ⟨(0), (x281002_1), rf_, H', ⟨Nat.le_refl _⟩, ⟨nB_ BK280.out⟩, ⟨nB_ BK281.out⟩, ⟨belG_⟩⟩
   case round =>
    clear H'
    try clear p2
    try clear c6
    try clear c7
    try clear hcz7_0
    try clear hcz7_1
    try clear hcz7_2
    try clear hfz7_0
    try clear hfz7_1
    try clear hfz7_2
    try clear p2
    obtain ⟨x13_2, x281002_2, rfl, HA, HK2, BK280, BK281, HB⟩ := hrel
    cases gk with
    | zero => exact absurd HA.out (by simp [veils_heights_follow.l1])
    | succ k2 =>
     have H := HA.out
     clear HA
     simp only [veils_heights_follow.l1] at H
     by_cases c8 : x13_2 < 4
     · rw [if_pos c8] at H
       have c8b0 : decide (x13_2 < 4) = true := decide_eq_true c8
       clear c8
       by_cases c9 : x13_2 = x281002_1
       · rw [if_pos c9] at H
         have c9b0 : (x13_2 == x281002_1) = true := beq_iff_eq.mpr c9
         have c9b1 : (x13_2 != x281002_1) = false := bne_eq_false_iff_eq.mpr c9
         clear c9
         have H' := Aside0.mk H
         clear H
         go_wp2
         go_roundg k2
         case measure => have := HK1.out; have := HK2.out; omega
         case rel => exact ⟨(wrap64 (x13_2 + 1)), (x281002_2), rf_, H', ⟨by have := HK1.out; have := HK2.out; omega⟩, ⟨nB_ BK280.out⟩, ⟨nB_ BK281.out⟩, ⟨belG_⟩⟩
       · rw [if_neg c9] at H
         have c9b0 : (x13_2 == x281002_1) = false := beq_eq_false_iff_ne.mpr c9
         have c9b1 : (x13_2 != x281002_1) = true := bne_iff_ne.mpr c9
         replace H := Option.bind_eq_some_iff.mp H
         obtain ⟨t283, A100, H⟩ := H
         replace H : (if t283 = true then ((veils_knot_step.f x281000_1 x281001_1 x13_2).bind fun bt284 => (if (mn bt284.1 bt284.2.1) < 1 then (some (x281000_1, x281001_1, x13_2)) else (if (mx bt284.1 bt284.2.1) > t282 then (some (x281000_1, x281001_1, x13_2)) else (veils_heights_follow.l0 k2 l0 t282 bt284.1 bt284.2.1 bt284.2.2)))) else (veils_heights_follow.l1 k2 l0 t282 x281002_1 (wrap64 (x13_2 + 1)) x281000_1 x281001_1 x281002_2)) = some (r1, r2, r3) := H
         have A10 := Aside0.mk A100
         clear A100
         by_cases c11 : t283 = true
         · subst c11
           have H1 : ((veils_knot_step.f x281000_1 x281001_1 x13_2).bind fun bt284 => (if (mn bt284.1 bt284.2.1) < 1 then (some (x281000_1, x281001_1, x13_2)) else (if (mx bt284.1 bt284.2.1) > t282 then (some (x281000_1, x281001_1, x13_2)) else (veils_heights_follow.l0 k2 l0 t282 bt284.1 bt284.2.1 bt284.2.2)))) = some (r1, r2, r3) := by rw [if_pos rfl] at H; exact H
           clear H
           have H := H1
           clear H1
           replace H := Option.bind_eq_some_iff.mp H
           obtain ⟨⟨t284, t285, t286⟩, A120, H⟩ := H
           replace H : (if (mn t284 t285) < 1 then (some (x281000_1, x281001_1, x13_2)) else (if (mx t284 t285) > t282 then (some (x281000_1, x281001_1, x13_2)) else (veils_heights_follow.l0 k2 l0 t282 t284 t285 t286))) = some (r1, r2, r3) := H
           have A12 := Aside0.mk A120
           clear A120
           obtain ⟨ji13, hji13⟩ : ∃ j_ : Int, (mn t284 t285) = j_ := ⟨_, rfl⟩
           replace H : (if (ji13) < 1 then (some (x281000_1, x281001_1, x13_2)) else (if (mx t284 t285) > t282 then (some (x281000_1, x281001_1, x13_2)) else (veils_heights_follow.l0 k2 l0 t282 t284 t285 t286))) = some (r1, r2, r3) := by first | (rw [hji13] at H; exact H) | (simp only [hji13] at H ⊢; exact H)
           (try rw [hji13] at A10)
           (try rw [hji13] at A12)
           have hji13_ : (if t285 < t284 then t285 else t284) = ji13 := hji13
           by_cases c14 : (ji13) < 1
           · rw [if_pos c14] at H
             have c14b0 : decide ((ji13) < 1) = true := decide_eq_true c14
             clear c14
             simp only [Option.some.injEq, Prod.mk.injEq] at H
             obtain ⟨rfl, rfl, rfl⟩ := H
             have hnb15 := NB280_281.out
             have hnc15 := NB281_280.out
             have hcz16_0 : wr.cell? ⟨gb280, 0, none⟩ = some (.int .i64 x281000_1) := (blk_cell BK280.out 0).trans rfl
             have hcz16_1 : wr.cell? ⟨gb280, 1, none⟩ = some (.int .i64 x281001_1) := (blk_cell BK280.out 1).trans rfl
             have hcz16_2 : wr.cell? ⟨gb280, 2, none⟩ = some (.int .i64 x281002_2) := (blk_cell BK280.out 2).trans rfl
             have hfz16_0 := blk_frozen BK280.out 0
             have hfz16_1 := blk_frozen BK280.out 1
             have hfz16_2 := blk_frozen BK280.out 2
             go_wp2_with (first | (go_at_call 77; (with_reducible refine (veils_heights_thread.calls _ _ l0 x281000_1 x281001_1 x13_2 true _ ?side1 ?side2 A10.out).mono ?_); (case side1 => repeat (first | exact (Kd.C_below HR0.out HB.out) | (with_reducible refine Kd.C_alloc ?_ _) | (with_reducible refine Kd.C_drewN ?_ _) | (with_reducible refine Kd.C_drew ?_))); (case side2 => exact HC0.out); rintro e w17 ⟨rfl, hb⟩; have n0_ := Aside0.mk (blk_below (g := gb280) (o := .cells #[.int .i64 x281000_1, .int .i64 x281001_1, .int .i64 x281002_2] 73 (0, 0)) (nB_ BK280.out) hb); have n1_ := Aside0.mk (blk_below (g := gb281) (o := .cells #[.int .i64 x282000_1, .int .i64 x282001_1, .int .i64 x282002_1] 73 (0, 0)) (nB_ BK281.out) hb); have n2_ := Aside0.mk (below_step (belG_) hb); clear BK280; clear BK281; clear HB; have BK280 := n0_; have BK281 := n1_; have HB := n2_; clear n0_ n1_ n2_; (try clear hb); (try clear hb2); (try clear hk); (try clear hi); have hcz18_0 : w17.cell? ⟨gb280, 0, none⟩ = some (.int .i64 x281000_1) := (blk_cell BK280.out 0).trans rfl; have hcz18_1 : w17.cell? ⟨gb280, 1, none⟩ = some (.int .i64 x281001_1) := (blk_cell BK280.out 1).trans rfl; have hcz18_2 : w17.cell? ⟨gb280, 2, none⟩ = some (.int .i64 x281002_2) := (blk_cell BK280.out 2).trans rfl; have hfz18_0 := blk_frozen BK280.out 0; have hfz18_1 := blk_frozen BK280.out 1; have hfz18_2 := blk_frozen BK280.out 2) | ((with_reducible refine gate_callee (f := 78) rfl ?_); refine goesL_ (some 33) rfl rfl Try.func78 (by kernel_rfl) rfl #[.agg #[.int .i64 x281000_1, .int .i64 x281001_1, .int .i64 x13_2]] rfl ar_ ?_; (with_reducible refine (veils_knot_step.calls x281000_1 x281001_1 x13_2 t284 t285 t286 _ A12.out).mono ?_); rintro e w19 ⟨rfl, hb⟩; refine ⟨_, rfl, ?_⟩; have n0_ := Aside0.mk (blk_below (g := gb280) (o := .cells #[.int .i64 x281000_1, .int .i64 x281001_1, .int .i64 x13_2] 73 (0, 0)) (by (with_reducible repeat (first | refine blk_drewN ?_ _ | refine blk_drew ?_ | refine blk_alloc ?_ _)); refine blk_put (cs := #[.int .i64 x281000_1, .int .i64 x281001_1, .int .i64 x281002_2]) ?_ 2 _ rfl; (with_reducible repeat (first | refine blk_drewN ?_ _ | refine blk_drew ?_ | refine blk_alloc ?_ _)); exact BK280.out) hb); have n1_ := Aside0.mk (blk_below (g := gb281) (o := .cells #[.int .i64 x282000_1, .int .i64 x282001_1, .int .i64 x282002_1] 73 (0, 0)) (by (with_reducible repeat (first | refine blk_drewN ?_ _ | refine blk_drew ?_ | refine blk_alloc ?_ _)); refine blk_far ?_ NB281_280.out _; (with_reducible repeat (first | refine blk_drewN ?_ _ | refine blk_drew ?_ | refine blk_alloc ?_ _)); exact BK281.out) hb); have n2_ := Aside0.mk (below_step (belG_) hb); clear BK280; clear BK281; clear HB; have BK280 := n0_; have BK281 := n1_; have HB := n2_; clear n0_ n1_ n2_; (try clear hb); (try clear hb2); (try clear hk); (try clear hi)) | ((with_reducible refine gate_dst (N := 8) rfl ?_); (try (refine gate_guard (by rfl) ?_; dsimp only)); refine box_event ?hg (N := 8) ?hd (cs := #[.int .i64 0, .int .i64 0, .int .i64 0]) (t := 73) ?hr ?_; (case hd => rfl); (case hg => rfl); (case hr => first | (go_simp; done) | (go_simp; rfl)); intro gb287 hg w20 hbox hb; have n0_ := Aside0.mk (blk_below (g := gb280) (o := .cells #[.int .i64 x281000_1, .int .i64 x281001_1, .int .i64 x13_2] 73 (0, 0)) (nB_ BK280.out) hb); have n1_ := Aside0.mk (blk_below (g := gb281) (o := .cells #[.int .i64 x282000_1, .int .i64 x282001_1, .int .i64 x282002_1] 73 (0, 0)) (nB_ BK281.out) hb); have n2_ := Aside0.mk (below_step (belG_) hb); have n3_ := Aside0.mk (hbox); have n4_ := Aside0.mk ((by rw [hg]; exact (below_size (belG_)) : w.heap.size ≤ gb287)); have n5_ := Aside0.mk ((by rw [hg]; exact (below_size (belG_)) : w.heap.size ≤ gb287)); have n6_ := Aside0.mk ((by rw [hg]; exact Nat.ne_of_lt (blk_lt (g := gb280) (o := .cells #[.int .i64 x281000_1, .int .i64 x281001_1, .int .i64 x13_2] 73 (0, 0)) (nB_ BK280.out)) : gb280 ≠ gb287)); have n7_ := Aside0.mk ((by rw [hg]; exact Nat.ne_of_gt (blk_lt (g := gb280) (o := .cells #[.int .i64 x281000_1, .int .i64 x281001_1, .int .i64 x13_2] 73 (0, 0)) (nB_ BK280.out)) : gb287 ≠ gb280)); have n8_ := Aside0.mk ((by rw [hg]; exact Nat.ne_of_lt (blk_lt (g := gb281) (o := .cells #[.int .i64 x282000_1, .int .i64 x282001_1, .int .i64 x282002_1] 73 (0, 0)) (nB_ BK281.out)) : gb281 ≠ gb287)); have n9_ := Aside0.mk ((by rw [hg]; exact Nat.ne_of_gt (blk_lt (g := gb281) (o := .cells #[.int .i64 x282000_1, .int .i64 x282001_1, .int .i64 x282002_1] 73 (0, 0)) (nB_ BK281.out)) : gb287 ≠ gb281)); clear BK280; clear BK281; clear HB; have BK280 := n0_; have BK281 := n1_; have HB := n2_; have BK287 := n3_; have GW287 := n4_; have GE287 := n5_; have NB280_287 := n6_; have NB287_280 := n7_; have NB281_287 := n8_; have NB287_281 := n9_; clear n0_ n1_ n2_ n3_ n4_ n5_ n6_ n7_ n8_ n9_; clear hb hbox hg; have hnb21 := NB287_280.out; have hnc21 := NB280_287.out; have hnb22 := NB287_281.out; have hnc22 := NB281_287.out; have hcz23_0 : w20.cell? ⟨gb287, 0, none⟩ = some (.int .i64 0) := (blk_cell BK287.out 0).trans rfl; have hcz23_1 : w20.cell? ⟨gb287, 1, none⟩ = some (.int .i64 0) := (blk_cell BK287.out 1).trans rfl; have hcz23_2 : w20.cell? ⟨gb287, 2, none⟩ = some (.int .i64 0) := (blk_cell BK287.out 2).trans rfl; have hfz23_0 := blk_frozen BK287.out 0; have hfz23_1 := blk_frozen BK287.out 1; have hfz23_2 := blk_frozen BK287.out 2; have hcz24_0 : w20.cell? ⟨gb280, 0, none⟩ = some (.int .i64 x281000_1) := (blk_cell BK280.out 0).trans rfl; have hcz24_1 : w20.cell? ⟨gb280, 1, none⟩ = some (.int .i64 x281001_1) := (blk_cell BK280.out 1).trans rfl; have hcz24_2 : w20.cell? ⟨gb280, 2, none⟩ = some (.int .i64 x13_2) := (blk_cell BK280.out 2).trans rfl; have hfz24_0 := blk_frozen BK280.out 0; have hfz24_1 := blk_frozen BK280.out 1; have hfz24_2 := blk_frozen BK280.out 2; have hcz25_0 : w20.cell? ⟨gb281, 0, none⟩ = some (.int .i64 x282000_1) := (blk_cell BK281.out 0).trans rfl; have hcz25_1 : w20.cell? ⟨gb281, 1, none⟩ = some (.int .i64 x282001_1) := (blk_cell BK281.out 1).trans rfl; have hcz25_2 : w20.cell? ⟨gb281, 2, none⟩ = some (.int .i64 x282002_1) := (blk_cell BK281.out 2).trans rfl; have hfz25_0 := blk_frozen BK281.out 0; have hfz25_1 := blk_frozen BK281.out 1; have hfz25_2 := blk_frozen BK281.out 2))
             refine bodyPost_ret (results_cell_row rfl _ _ gb281 73 #[.int .i64 x281000_1, .int .i64 x281001_1, .int .i64 x13_2] (0, 0) _ rfl (by (with_reducible repeat (first | refine blk_drewN ?_ _ | refine blk_drew ?_ | refine blk_alloc ?_ _)); refine blk_put (cs := #[.int .i64 x281000_1, .int .i64 x281001_1, .int .i64 x282002_1]) ?_ 2 _ rfl; (with_reducible repeat (first | refine blk_drewN ?_ _ | refine blk_drew ?_ | refine blk_alloc ?_ _)); refine blk_put (cs := #[.int .i64 x281000_1, .int .i64 x282001_1, .int .i64 x282002_1]) ?_ 1 _ rfl; (with_reducible repeat (first | refine blk_drewN ?_ _ | refine blk_drew ?_ | refine blk_alloc ?_ _)); refine blk_put (cs := #[.int .i64 x282000_1, .int .i64 x282001_1, .int .i64 x282002_1]) ?_ 0 _ rfl; (with_reducible repeat (first | refine blk_drewN ?_ _ | refine blk_drew ?_ | refine blk_alloc ?_ _)); refine blk_far ?_ NB281_287.out _; (with_reducible repeat (first | refine blk_drewN ?_ _ | refine blk_drew ?_ | refine blk_alloc ?_ _)); refine blk_far ?_ NB281_287.out _; (with_reducible repeat (first | refine blk_drewN ?_ _ | refine blk_drew ?_ | refine blk_alloc ?_ _)); refine blk_far ?_ NB281_287.out _; (with_reducible repeat (first | refine blk_drewN ?_ _ | refine blk_drew ?_ | refine blk_alloc ?_ _)); exact BK281.out) Try.underlying73 rfl (by kernel_rfl)) rfl ?_
             exact ⟨by first | rfl | (simp [errW_none, errW_some] <;> rfl) | (simp only [← hji13]; first | rfl | (simp [errW_none, errW_some] <;> rfl)) | (simp [*, errW_none, errW_some] <;> rfl), by repeat (first | (with_reducible first | exact HB.out | apply below_alloc | apply pw_below_drewN | apply below_drew1 | refine below_set ?_ GE280.out | refine below_set ?_ GE281.out | refine below_set ?_ GE287.out) | exact HB.out)⟩
           · rw [if_neg c14] at H
             have c14b0 : decide ((ji13) < 1) = false := decide_eq_false c14
             clear c14
             obtain ⟨ji26, hji26⟩ : ∃ j_ : Int, (mx t284 t285) = j_ := ⟨_, rfl⟩
             replace H : (if (ji26) > t282 then (some (x281000_1, x281001_1, x13_2)) else (veils_heights_follow.l0 k2 l0 t282 t284 t285 t286)) = some (r1, r2, r3) := by first | (rw [hji26] at H; exact H) | (simp only [hji26] at H ⊢; exact H)
             (try rw [hji26] at A10)
             (try rw [hji26] at A12)
             have hji26_ : (if t284 < t285 then t285 else t284) = ji26 := hji26
             by_cases c27 : (ji26) > t282
             · rw [if_pos c27] at H
               have c27b0 : decide (t282 < (ji26)) = true := decide_eq_true c27
               clear c27
               simp only [Option.some.injEq, Prod.mk.injEq] at H
               obtain ⟨rfl, rfl, rfl⟩ := H
               have hnb28 := NB280_281.out
               have hnc28 := NB281_280.out
               have hcz29_0 : wr.cell? ⟨gb280, 0, none⟩ = some (.int .i64 x281000_1) := (blk_cell BK280.out 0).trans rfl
               have hcz29_1 : wr.cell? ⟨gb280, 1, none⟩ = some (.int .i64 x281001_1) := (blk_cell BK280.out 1).trans rfl
               have hcz29_2 : wr.cell? ⟨gb280, 2, none⟩ = some (.int .i64 x281002_2) := (blk_cell BK280.out 2).trans rfl
               have hfz29_0 := blk_frozen BK280.out 0
               have hfz29_1 := blk_frozen BK280.out 1
               have hfz29_2 := blk_frozen BK280.out 2
               go_wp2_with (first | (go_at_call 77; (with_reducible refine (veils_heights_thread.calls _ _ l0 x281000_1 x281001_1 x13_2 true _ ?side1 ?side2 A10.out).mono ?_); (case side1 => repeat (first | exact (Kd.C_below HR0.out HB.out) | (with_reducible refine Kd.C_alloc ?_ _) | (with_reducible refine Kd.C_drewN ?_ _) | (with_reducible refine Kd.C_drew ?_))); (case side2 => exact HC0.out); rintro e w30 ⟨rfl, hb⟩; have n0_ := Aside0.mk (blk_below (g := gb280) (o := .cells #[.int .i64 x281000_1, .int .i64 x281001_1, .int .i64 x281002_2] 73 (0, 0)) (nB_ BK280.out) hb); have n1_ := Aside0.mk (blk_below (g := gb281) (o := .cells #[.int .i64 x282000_1, .int .i64 x282001_1, .int .i64 x282002_1] 73 (0, 0)) (nB_ BK281.out) hb); have n2_ := Aside0.mk (below_step (belG_) hb); clear BK280; clear BK281; clear HB; have BK280 := n0_; have BK281 := n1_; have HB := n2_; clear n0_ n1_ n2_; (try clear hb); (try clear hb2); (try clear hk); (try clear hi); have hcz31_0 : w30.cell? ⟨gb280, 0, none⟩ = some (.int .i64 x281000_1) := (blk_cell BK280.out 0).trans rfl; have hcz31_1 : w30.cell? ⟨gb280, 1, none⟩ = some (.int .i64 x281001_1) := (blk_cell BK280.out 1).trans rfl; have hcz31_2 : w30.cell? ⟨gb280, 2, none⟩ = some (.int .i64 x281002_2) := (blk_cell BK280.out 2).trans rfl; have hfz31_0 := blk_frozen BK280.out 0; have hfz31_1 := blk_frozen BK280.out 1; have hfz31_2 := blk_frozen BK280.out 2) | ((with_reducible refine gate_callee (f := 78) rfl ?_); refine goesL_ (some 33) rfl rfl Try.func78 (by kernel_rfl) rfl #[.agg #[.int .i64 x281000_1, .int .i64 x281001_1, .int .i64 x13_2]] rfl ar_ ?_; (with_reducible refine (veils_knot_step.calls x281000_1 x281001_1 x13_2 t284 t285 t286 _ A12.out).mono ?_); rintro e w32 ⟨rfl, hb⟩; refine ⟨_, rfl, ?_⟩; have n0_ := Aside0.mk (blk_below (g := gb280) (o := .cells #[.int .i64 x281000_1, .int .i64 x281001_1, .int .i64 x13_2] 73 (0, 0)) (by (with_reducible repeat (first | refine blk_drewN ?_ _ | refine blk_drew ?_ | refine blk_alloc ?_ _)); refine blk_put (cs := #[.int .i64 x281000_1, .int .i64 x281001_1, .int .i64 x281002_2]) ?_ 2 _ rfl; (with_reducible repeat (first | refine blk_drewN ?_ _ | refine blk_drew ?_ | refine blk_alloc ?_ _)); exact BK280.out) hb); have n1_ := Aside0.mk (blk_below (g := gb281) (o := .cells #[.int .i64 x282000_1, .int .i64 x282001_1, .int .i64 x282002_1] 73 (0, 0)) (by (with_reducible repeat (first | refine blk_drewN ?_ _ | refine blk_drew ?_ | refine blk_alloc ?_ _)); refine blk_far ?_ NB281_280.out _; (with_reducible repeat (first | refine blk_drewN ?_ _ | refine blk_drew ?_ | refine blk_alloc ?_ _)); exact BK281.out) hb); have n2_ := Aside0.mk (below_step (belG_) hb); clear BK280; clear BK281; clear HB; have BK280 := n0_; have BK281 := n1_; have HB := n2_; clear n0_ n1_ n2_; (try clear hb); (try clear hb2); (try clear hk); (try clear hi)) | ((with_reducible refine gate_dst (N := 8) rfl ?_); (try (refine gate_guard (by rfl) ?_; dsimp only)); refine box_event ?hg (N := 8) ?hd (cs := #[.int .i64 0, .int .i64 0, .int .i64 0]) (t := 73) ?hr ?_; (case hd => rfl); (case hg => rfl); (case hr => first | (go_simp; done) | (go_simp; rfl)); intro gb287 hg w33 hbox hb; have n0_ := Aside0.mk (blk_below (g := gb280) (o := .cells #[.int .i64 x281000_1, .int .i64 x281001_1, .int .i64 x13_2] 73 (0, 0)) (nB_ BK280.out) hb); have n1_ := Aside0.mk (blk_below (g := gb281) (o := .cells #[.int .i64 x282000_1, .int .i64 x282001_1, .int .i64 x282002_1] 73 (0, 0)) (nB_ BK281.out) hb); have n2_ := Aside0.mk (below_step (belG_) hb); have n3_ := Aside0.mk (hbox); have n4_ := Aside0.mk ((by rw [hg]; exact (below_size (belG_)) : w.heap.size ≤ gb287)); have n5_ := Aside0.mk ((by rw [hg]; exact (below_size (belG_)) : w.heap.size ≤ gb287)); have n6_ := Aside0.mk ((by rw [hg]; exact Nat.ne_of_lt (blk_lt (g := gb280) (o := .cells #[.int .i64 x281000_1, .int .i64 x281001_1, .int .i64 x13_2] 73 (0, 0)) (nB_ BK280.out)) : gb280 ≠ gb287)); have n7_ := Aside0.mk ((by rw [hg]; exact Nat.ne_of_gt (blk_lt (g := gb280) (o := .cells #[.int .i64 x281000_1, .int .i64 x281001_1, .int .i64 x13_2] 73 (0, 0)) (nB_ BK280.out)) : gb287 ≠ gb280)); have n8_ := Aside0.mk ((by rw [hg]; exact Nat.ne_of_lt (blk_lt (g := gb281) (o := .cells #[.int .i64 x282000_1, .int .i64 x282001_1, .int .i64 x282002_1] 73 (0, 0)) (nB_ BK281.out)) : gb281 ≠ gb287)); have n9_ := Aside0.mk ((by rw [hg]; exact Nat.ne_of_gt (blk_lt (g := gb281) (o := .cells #[.int .i64 x282000_1, .int .i64 x282001_1, .int .i64 x282002_1] 73 (0, 0)) (nB_ BK281.out)) : gb287 ≠ gb281)); clear BK280; clear BK281; clear HB; have BK280 := n0_; have BK281 := n1_; have HB := n2_; have BK287 := n3_; have GW287 := n4_; have GE287 := n5_; have NB280_287 := n6_; have NB287_280 := n7_; have NB281_287 := n8_; have NB287_281 := n9_; clear n0_ n1_ n2_ n3_ n4_ n5_ n6_ n7_ n8_ n9_; clear hb hbox hg; have hnb34 := NB287_280.out; have hnc34 := NB280_287.out; have hnb35 := NB287_281.out; have hnc35 := NB281_287.out; have hcz36_0 : w33.cell? ⟨gb287, 0, none⟩ = some (.int .i64 0) := (blk_cell BK287.out 0).trans rfl; have hcz36_1 : w33.cell? ⟨gb287, 1, none⟩ = some (.int .i64 0) := (blk_cell BK287.out 1).trans rfl; have hcz36_2 : w33.cell? ⟨gb287, 2, none⟩ = some (.int .i64 0) := (blk_cell BK287.out 2).trans rfl; have hfz36_0 := blk_frozen BK287.out 0; have hfz36_1 := blk_frozen BK287.out 1; have hfz36_2 := blk_frozen BK287.out 2; have hcz37_0 : w33.cell? ⟨gb280, 0, none⟩ = some (.int .i64 x281000_1) := (blk_cell BK280.out 0).trans rfl; have hcz37_1 : w33.cell? ⟨gb280, 1, none⟩ = some (.int .i64 x281001_1) := (blk_cell BK280.out 1).trans rfl; have hcz37_2 : w33.cell? ⟨gb280, 2, none⟩ = some (.int .i64 x13_2) := (blk_cell BK280.out 2).trans rfl; have hfz37_0 := blk_frozen BK280.out 0; have hfz37_1 := blk_frozen BK280.out 1; have hfz37_2 := blk_frozen BK280.out 2; have hcz38_0 : w33.cell? ⟨gb281, 0, none⟩ = some (.int .i64 x282000_1) := (blk_cell BK281.out 0).trans rfl; have hcz38_1 : w33.cell? ⟨gb281, 1, none⟩ = some (.int .i64 x282001_1) := (blk_cell BK281.out 1).trans rfl; have hcz38_2 : w33.cell? ⟨gb281, 2, none⟩ = some (.int .i64 x282002_1) := (blk_cell BK281.out 2).trans rfl; have hfz38_0 := blk_frozen BK281.out 0; have hfz38_1 := blk_frozen BK281.out 1; have hfz38_2 := blk_frozen BK281.out 2))
               refine bodyPost_ret (results_cell_row rfl _ _ gb281 73 #[.int .i64 x281000_1, .int .i64 x281001_1, .int .i64 x13_2] (0, 0) _ rfl (by (with_reducible repeat (first | refine blk_drewN ?_ _ | refine blk_drew ?_ | refine blk_alloc ?_ _)); refine blk_put (cs := #[.int .i64 x281000_1, .int .i64 x281001_1, .int .i64 x282002_1]) ?_ 2 _ rfl; (with_reducible repeat (first | refine blk_drewN ?_ _ | refine blk_drew ?_ | refine blk_alloc ?_ _)); refine blk_put (cs := #[.int .i64 x281000_1, .int .i64 x282001_1, .int .i64 x282002_1]) ?_ 1 _ rfl; (with_reducible repeat (first | refine blk_drewN ?_ _ | refine blk_drew ?_ | refine blk_alloc ?_ _)); refine blk_put (cs := #[.int .i64 x282000_1, .int .i64 x282001_1, .int .i64 x282002_1]) ?_ 0 _ rfl; (with_reducible repeat (first | refine blk_drewN ?_ _ | refine blk_drew ?_ | refine blk_alloc ?_ _)); refine blk_far ?_ NB281_287.out _; (with_reducible repeat (first | refine blk_drewN ?_ _ | refine blk_drew ?_ | refine blk_alloc ?_ _)); refine blk_far ?_ NB281_287.out _; (with_reducible repeat (first | refine blk_drewN ?_ _ | refine blk_drew ?_ | refine blk_alloc ?_ _)); refine blk_far ?_ NB281_287.out _; (with_reducible repeat (first | refine blk_drewN ?_ _ | refine blk_drew ?_ | refine blk_alloc ?_ _)); exact BK281.out) Try.underlying73 rfl (by kernel_rfl)) rfl ?_
               exact ⟨by first | rfl | (simp [errW_none, errW_some] <;> rfl) | (simp only [← hji13, ← hji26]; first | rfl | (simp [errW_none, errW_some] <;> rfl)) | (simp [*, errW_none, errW_some] <;> rfl), by repeat (first | (with_reducible first | exact HB.out | apply below_alloc | apply pw_below_drewN | apply below_drew1 | refine below_set ?_ GE280.out | refine below_set ?_ GE281.out | refine below_set ?_ GE287.out) | exact HB.out)⟩
             · rw [if_neg c27] at H
               have c27b0 : decide (t282 < (ji26)) = false := decide_eq_false c27
               clear c27
               have H' := Aside0.mk H
               clear H
               have hnb39 := NB280_281.out
               have hnc39 := NB281_280.out
               have hcz40_0 : wr.cell? ⟨gb280, 0, none⟩ = some (.int .i64 x281000_1) := (blk_cell BK280.out 0).trans rfl
               have hcz40_1 : wr.cell? ⟨gb280, 1, none⟩ = some (.int .i64 x281001_1) := (blk_cell BK280.out 1).trans rfl
               have hcz40_2 : wr.cell? ⟨gb280, 2, none⟩ = some (.int .i64 x281002_2) := (blk_cell BK280.out 2).trans rfl
               have hfz40_0 := blk_frozen BK280.out 0
               have hfz40_1 := blk_frozen BK280.out 1
               have hfz40_2 := blk_frozen BK280.out 2
               go_wp2_with (first | (go_at_call 77; (with_reducible refine (veils_heights_thread.calls _ _ l0 x281000_1 x281001_1 x13_2 true _ ?side1 ?side2 A10.out).mono ?_); (case side1 => repeat (first | exact (Kd.C_below HR0.out HB.out) | (with_reducible refine Kd.C_alloc ?_ _) | (with_reducible refine Kd.C_drewN ?_ _) | (with_reducible refine Kd.C_drew ?_))); (case side2 => exact HC0.out); rintro e w41 ⟨rfl, hb⟩; have n0_ := Aside0.mk (blk_below (g := gb280) (o := .cells #[.int .i64 x281000_1, .int .i64 x281001_1, .int .i64 x281002_2] 73 (0, 0)) (nB_ BK280.out) hb); have n1_ := Aside0.mk (blk_below (g := gb281) (o := .cells #[.int .i64 x282000_1, .int .i64 x282001_1, .int .i64 x282002_1] 73 (0, 0)) (nB_ BK281.out) hb); have n2_ := Aside0.mk (below_step (belG_) hb); clear BK280; clear BK281; clear HB; have BK280 := n0_; have BK281 := n1_; have HB := n2_; clear n0_ n1_ n2_; (try clear hb); (try clear hb2); (try clear hk); (try clear hi); have hcz42_0 : w41.cell? ⟨gb280, 0, none⟩ = some (.int .i64 x281000_1) := (blk_cell BK280.out 0).trans rfl; have hcz42_1 : w41.cell? ⟨gb280, 1, none⟩ = some (.int .i64 x281001_1) := (blk_cell BK280.out 1).trans rfl; have hcz42_2 : w41.cell? ⟨gb280, 2, none⟩ = some (.int .i64 x281002_2) := (blk_cell BK280.out 2).trans rfl; have hfz42_0 := blk_frozen BK280.out 0; have hfz42_1 := blk_frozen BK280.out 1; have hfz42_2 := blk_frozen BK280.out 2) | ((with_reducible refine gate_callee (f := 78) rfl ?_); refine goesL_ (some 33) rfl rfl Try.func78 (by kernel_rfl) rfl #[.agg #[.int .i64 x281000_1, .int .i64 x281001_1, .int .i64 x13_2]] rfl ar_ ?_; (with_reducible refine (veils_knot_step.calls x281000_1 x281001_1 x13_2 t284 t285 t286 _ A12.out).mono ?_); rintro e w43 ⟨rfl, hb⟩; refine ⟨_, rfl, ?_⟩; have n0_ := Aside0.mk (blk_below (g := gb280) (o := .cells #[.int .i64 x281000_1, .int .i64 x281001_1, .int .i64 x13_2] 73 (0, 0)) (by (with_reducible repeat (first | refine blk_drewN ?_ _ | refine blk_drew ?_ | refine blk_alloc ?_ _)); refine blk_put (cs := #[.int .i64 x281000_1, .int .i64 x281001_1, .int .i64 x281002_2]) ?_ 2 _ rfl; (with_reducible repeat (first | refine blk_drewN ?_ _ | refine blk_drew ?_ | refine blk_alloc ?_ _)); exact BK280.out) hb); have n1_ := Aside0.mk (blk_below (g := gb281) (o := .cells #[.int .i64 x282000_1, .int .i64 x282001_1, .int .i64 x282002_1] 73 (0, 0)) (by (with_reducible repeat (first | refine blk_drewN ?_ _ | refine blk_drew ?_ | refine blk_alloc ?_ _)); refine blk_far ?_ NB281_280.out _; (with_reducible repeat (first | refine blk_drewN ?_ _ | refine blk_drew ?_ | refine blk_alloc ?_ _)); exact BK281.out) hb); have n2_ := Aside0.mk (below_step (belG_) hb); clear BK280; clear BK281; clear HB; have BK280 := n0_; have BK281 := n1_; have HB := n2_; clear n0_ n1_ n2_; (try clear hb); (try clear hb2); (try clear hk); (try clear hi)) | ((with_reducible refine gate_dst (N := 8) rfl ?_); (try (refine gate_guard (by rfl) ?_; dsimp only)); refine box_event ?hg (N := 8) ?hd (cs := #[.int .i64 0, .int .i64 0, .int .i64 0]) (t := 73) ?hr ?_; (case hd => rfl); (case hg => rfl); (case hr => first | (go_simp; done) | (go_simp; rfl)); intro gb287 hg w44 hbox hb; have n0_ := Aside0.mk (blk_below (g := gb280) (o := .cells #[.int .i64 x281000_1, .int .i64 x281001_1, .int .i64 x13_2] 73 (0, 0)) (nB_ BK280.out) hb); have n1_ := Aside0.mk (blk_below (g := gb281) (o := .cells #[.int .i64 x282000_1, .int .i64 x282001_1, .int .i64 x282002_1] 73 (0, 0)) (nB_ BK281.out) hb); have n2_ := Aside0.mk (below_step (belG_) hb); have n3_ := Aside0.mk (hbox); have n4_ := Aside0.mk ((by rw [hg]; exact (below_size (belG_)) : w.heap.size ≤ gb287)); have n5_ := Aside0.mk ((by rw [hg]; exact (below_size (belG_)) : w.heap.size ≤ gb287)); have n6_ := Aside0.mk ((by rw [hg]; exact Nat.ne_of_lt (blk_lt (g := gb280) (o := .cells #[.int .i64 x281000_1, .int .i64 x281001_1, .int .i64 x13_2] 73 (0, 0)) (nB_ BK280.out)) : gb280 ≠ gb287)); have n7_ := Aside0.mk ((by rw [hg]; exact Nat.ne_of_gt (blk_lt (g := gb280) (o := .cells #[.int .i64 x281000_1, .int .i64 x281001_1, .int .i64 x13_2] 73 (0, 0)) (nB_ BK280.out)) : gb287 ≠ gb280)); have n8_ := Aside0.mk ((by rw [hg]; exact Nat.ne_of_lt (blk_lt (g := gb281) (o := .cells #[.int .i64 x282000_1, .int .i64 x282001_1, .int .i64 x282002_1] 73 (0, 0)) (nB_ BK281.out)) : gb281 ≠ gb287)); have n9_ := Aside0.mk ((by rw [hg]; exact Nat.ne_of_gt (blk_lt (g := gb281) (o := .cells #[.int .i64 x282000_1, .int .i64 x282001_1, .int .i64 x282002_1] 73 (0, 0)) (nB_ BK281.out)) : gb287 ≠ gb281)); clear BK280; clear BK281; clear HB; have BK280 := n0_; have BK281 := n1_; have HB := n2_; have BK287 := n3_; have GW287 := n4_; have GE287 := n5_; have NB280_287 := n6_; have NB287_280 := n7_; have NB281_287 := n8_; have NB287_281 := n9_; clear n0_ n1_ n2_ n3_ n4_ n5_ n6_ n7_ n8_ n9_; clear hb hbox hg; have hnb45 := NB287_280.out; have hnc45 := NB280_287.out; have hnb46 := NB287_281.out; have hnc46 := NB281_287.out; have hcz47_0 : w44.cell? ⟨gb287, 0, none⟩ = some (.int .i64 0) := (blk_cell BK287.out 0).trans rfl; have hcz47_1 : w44.cell? ⟨gb287, 1, none⟩ = some (.int .i64 0) := (blk_cell BK287.out 1).trans rfl; have hcz47_2 : w44.cell? ⟨gb287, 2, none⟩ = some (.int .i64 0) := (blk_cell BK287.out 2).trans rfl; have hfz47_0 := blk_frozen BK287.out 0; have hfz47_1 := blk_frozen BK287.out 1; have hfz47_2 := blk_frozen BK287.out 2; have hcz48_0 : w44.cell? ⟨gb280, 0, none⟩ = some (.int .i64 x281000_1) := (blk_cell BK280.out 0).trans rfl; have hcz48_1 : w44.cell? ⟨gb280, 1, none⟩ = some (.int .i64 x281001_1) := (blk_cell BK280.out 1).trans rfl; have hcz48_2 : w44.cell? ⟨gb280, 2, none⟩ = some (.int .i64 x13_2) := (blk_cell BK280.out 2).trans rfl; have hfz48_0 := blk_frozen BK280.out 0; have hfz48_1 := blk_frozen BK280.out 1; have hfz48_2 := blk_frozen BK280.out 2))
               go_roundg k2
               case measure => have := HK1.out; have := HK2.out; omega
               case rel => exact ⟨(t284), (t285), (t286), (x282000_1), (x282001_1), (x282002_1), H', ⟨by have := HK1.out; have := HK2.out; omega⟩, ⟨by (with_reducible repeat (first | refine blk_drewN ?_ _ | refine blk_drew ?_ | refine blk_alloc ?_ _)); refine blk_put (cs := #[.int .i64 t284, .int .i64 t285, .int .i64 x13_2]) ?_ 2 _ rfl; (with_reducible repeat (first | refine blk_drewN ?_ _ | refine blk_drew ?_ | refine blk_alloc ?_ _)); refine blk_put (cs := #[.int .i64 t284, .int .i64 x281001_1, .int .i64 x13_2]) ?_ 1 _ rfl; (with_reducible repeat (first | refine blk_drewN ?_ _ | refine blk_drew ?_ | refine blk_alloc ?_ _)); refine blk_put (cs := #[.int .i64 x281000_1, .int .i64 x281001_1, .int .i64 x13_2]) ?_ 0 _ rfl; (with_reducible repeat (first | refine blk_drewN ?_ _ | refine blk_drew ?_ | refine blk_alloc ?_ _)); refine blk_far ?_ NB280_287.out _; (with_reducible repeat (first | refine blk_drewN ?_ _ | refine blk_drew ?_ | refine blk_alloc ?_ _)); refine blk_far ?_ NB280_287.out _; (with_reducible repeat (first | refine blk_drewN ?_ _ | refine blk_drew ?_ | refine blk_alloc ?_ _)); refine blk_far ?_ NB280_287.out _; (with_reducible repeat (first | refine blk_drewN ?_ _ | refine blk_drew ?_ | refine blk_alloc ?_ _)); exact BK280.out⟩, ⟨by (with_reducible repeat (first | refine blk_drewN ?_ _ | refine blk_drew ?_ | refine blk_alloc ?_ _)); refine blk_far ?_ NB281_280.out _; (with_reducible repeat (first | refine blk_drewN ?_ _ | refine blk_drew ?_ | refine blk_alloc ?_ _)); refine blk_far ?_ NB281_280.out _; (with_reducible repeat (first | refine blk_drewN ?_ _ | refine blk_drew ?_ | refine blk_alloc ?_ _)); refine blk_far ?_ NB281_280.out _; (with_reducible repeat (first | refine blk_drewN ?_ _ | refine blk_drew ?_ | refine blk_alloc ?_ _)); refine blk_far ?_ NB281_287.out _; (with_reducible repeat (first | refine blk_drewN ?_ _ | refine blk_drew ?_ | refine blk_alloc ?_ _)); refine blk_far ?_ NB281_287.out _; (with_reducible repeat (first | refine blk_drewN ?_ _ | refine blk_drew ?_ | refine blk_alloc ?_ _)); refine blk_far ?_ NB281_287.out _; (with_reducible repeat (first | refine blk_drewN ?_ _ | refine blk_drew ?_ | refine blk_alloc ?_ _)); exact BK281.out⟩, ⟨by repeat (first | (with_reducible first | exact HB.out | apply below_alloc | apply pw_below_drewN | apply below_drew1 | refine below_set ?_ GE280.out | refine below_set ?_ GE281.out | refine below_set ?_ GE287.out) | exact HB.out)⟩⟩
         · replace c11 := Bool.eq_false_iff.mpr c11
           subst c11
           have H1 : (veils_heights_follow.l1 k2 l0 t282 x281002_1 (wrap64 (x13_2 + 1)) x281000_1 x281001_1 x281002_2) = some (r1, r2, r3) := by rw [if_neg (show ¬ (false = true) by decide)] at H; exact H
           clear H
           have H := H1
           clear H1
           have H' := Aside0.mk H
           clear H
           have hnb49 := NB280_281.out
           have hnc49 := NB281_280.out
           have hcz50_0 : wr.cell? ⟨gb280, 0, none⟩ = some (.int .i64 x281000_1) := (blk_cell BK280.out 0).trans rfl
           have hcz50_1 : wr.cell? ⟨gb280, 1, none⟩ = some (.int .i64 x281001_1) := (blk_cell BK280.out 1).trans rfl
           have hcz50_2 : wr.cell? ⟨gb280, 2, none⟩ = some (.int .i64 x281002_2) := (blk_cell BK280.out 2).trans rfl
           have hfz50_0 := blk_frozen BK280.out 0
           have hfz50_1 := blk_frozen BK280.out 1
           have hfz50_2 := blk_frozen BK280.out 2
           go_wp2_with (first | (go_at_call 77; (with_reducible refine (veils_heights_thread.calls _ _ l0 x281000_1 x281001_1 x13_2 false _ ?side1 ?side2 A10.out).mono ?_); (case side1 => repeat (first | exact (Kd.C_below HR0.out HB.out) | (with_reducible refine Kd.C_alloc ?_ _) | (with_reducible refine Kd.C_drewN ?_ _) | (with_reducible refine Kd.C_drew ?_))); (case side2 => exact HC0.out); rintro e w51 ⟨rfl, hb⟩; have n0_ := Aside0.mk (blk_below (g := gb280) (o := .cells #[.int .i64 x281000_1, .int .i64 x281001_1, .int .i64 x281002_2] 73 (0, 0)) (nB_ BK280.out) hb); have n1_ := Aside0.mk (blk_below (g := gb281) (o := .cells #[.int .i64 x282000_1, .int .i64 x282001_1, .int .i64 x282002_1] 73 (0, 0)) (nB_ BK281.out) hb); have n2_ := Aside0.mk (below_step (belG_) hb); clear BK280; clear BK281; clear HB; have BK280 := n0_; have BK281 := n1_; have HB := n2_; clear n0_ n1_ n2_; (try clear hb); (try clear hb2); (try clear hk); (try clear hi)))
           go_roundg k2
           case measure => have := HK1.out; have := HK2.out; omega
           case rel => exact ⟨(wrap64 (x13_2 + 1)), (x281002_2), rf_, H', ⟨by have := HK1.out; have := HK2.out; omega⟩, ⟨nB_ BK280.out⟩, ⟨nB_ BK281.out⟩, ⟨belG_⟩⟩
     · rw [if_neg c8] at H
       have c8b0 : decide (x13_2 < 4) = false := decide_eq_false c8
       clear c8
       replace H := Option.bind_eq_some_iff.mp H
       obtain ⟨⟨t288, t289, t290⟩, A520, H⟩ := H
       replace H : (if (mn t288 t289) < 1 then (some (x281000_1, x281001_1, x281002_2)) else (if (mx t288 t289) > t282 then (some (x281000_1, x281001_1, x281002_2)) else (veils_heights_follow.l0 k2 l0 t282 t288 t289 t290))) = some (r1, r2, r3) := H
       have A52 := Aside0.mk A520
       clear A520
       obtain ⟨ji53, hji53⟩ : ∃ j_ : Int, (mn t288 t289) = j_ := ⟨_, rfl⟩
       replace H : (if (ji53) < 1 then (some (x281000_1, x281001_1, x281002_2)) else (if (mx t288 t289) > t282 then (some (x281000_1, x281001_1, x281002_2)) else (veils_heights_follow.l0 k2 l0 t282 t288 t289 t290))) = some (r1, r2, r3) := by first | (rw [hji53] at H; exact H) | (simp only [hji53] at H ⊢; exact H)
       (try rw [hji53] at A52)
       have hji53_ : (if t289 < t288 then t289 else t288) = ji53 := hji53
       by_cases c54 : (ji53) < 1
       · rw [if_pos c54] at H
         have c54b0 : decide ((ji53) < 1) = true := decide_eq_true c54
         clear c54
         simp only [Option.some.injEq, Prod.mk.injEq] at H
         obtain ⟨rfl, rfl, rfl⟩ := H
         have hnb55 := NB280_281.out
         have hnc55 := NB281_280.out
         have hcz56_0 : wr.cell? ⟨gb280, 0, none⟩ = some (.int .i64 x281000_1) := (blk_cell BK280.out 0).trans rfl
         have hcz56_1 : wr.cell? ⟨gb280, 1, none⟩ = some (.int .i64 x281001_1) := (blk_cell BK280.out 1).trans rfl
         have hcz56_2 : wr.cell? ⟨gb280, 2, none⟩ = some (.int .i64 x281002_2) := (blk_cell BK280.out 2).trans rfl
         have hfz56_0 := blk_frozen BK280.out 0
         have hfz56_1 := blk_frozen BK280.out 1
         have hfz56_2 := blk_frozen BK280.out 2
         go_wp2_with (first | ((with_reducible refine gate_callee (f := 78) rfl ?_); refine goesL_ (some 33) rfl rfl Try.func78 (by kernel_rfl) rfl #[.agg #[.int .i64 x281000_1, .int .i64 x281001_1, .int .i64 x281002_2]] rfl ar_ ?_; (with_reducible refine (veils_knot_step.calls x281000_1 x281001_1 x281002_2 t288 t289 t290 _ A52.out).mono ?_); rintro e w57 ⟨rfl, hb⟩; refine ⟨_, rfl, ?_⟩; have n0_ := Aside0.mk (blk_below (g := gb280) (o := .cells #[.int .i64 x281000_1, .int .i64 x281001_1, .int .i64 x281002_2] 73 (0, 0)) (nB_ BK280.out) hb); have n1_ := Aside0.mk (blk_below (g := gb281) (o := .cells #[.int .i64 x282000_1, .int .i64 x282001_1, .int .i64 x282002_1] 73 (0, 0)) (nB_ BK281.out) hb); have n2_ := Aside0.mk (below_step (belG_) hb); clear BK280; clear BK281; clear HB; have BK280 := n0_; have BK281 := n1_; have HB := n2_; clear n0_ n1_ n2_; (try clear hb); (try clear hb2); (try clear hk); (try clear hi)) | ((with_reducible refine gate_dst (N := 8) rfl ?_); (try (refine gate_guard (by rfl) ?_; dsimp only)); refine box_event ?hg (N := 8) ?hd (cs := #[.int .i64 0, .int .i64 0, .int .i64 0]) (t := 73) ?hr ?_; (case hd => rfl); (case hg => rfl); (case hr => first | (go_simp; done) | (go_simp; rfl)); intro gb291 hg w58 hbox hb; have n0_ := Aside0.mk (blk_below (g := gb280) (o := .cells #[.int .i64 x281000_1, .int .i64 x281001_1, .int .i64 x281002_2] 73 (0, 0)) (nB_ BK280.out) hb); have n1_ := Aside0.mk (blk_below (g := gb281) (o := .cells #[.int .i64 x282000_1, .int .i64 x282001_1, .int .i64 x282002_1] 73 (0, 0)) (nB_ BK281.out) hb); have n2_ := Aside0.mk (below_step (belG_) hb); have n3_ := Aside0.mk (hbox); have n4_ := Aside0.mk ((by rw [hg]; exact (below_size (belG_)) : w.heap.size ≤ gb291)); have n5_ := Aside0.mk ((by rw [hg]; exact (below_size (belG_)) : w.heap.size ≤ gb291)); have n6_ := Aside0.mk ((by rw [hg]; exact Nat.ne_of_lt (blk_lt (g := gb280) (o := .cells #[.int .i64 x281000_1, .int .i64 x281001_1, .int .i64 x281002_2] 73 (0, 0)) (nB_ BK280.out)) : gb280 ≠ gb291)); have n7_ := Aside0.mk ((by rw [hg]; exact Nat.ne_of_gt (blk_lt (g := gb280) (o := .cells #[.int .i64 x281000_1, .int .i64 x281001_1, .int .i64 x281002_2] 73 (0, 0)) (nB_ BK280.out)) : gb291 ≠ gb280)); have n8_ := Aside0.mk ((by rw [hg]; exact Nat.ne_of_lt (blk_lt (g := gb281) (o := .cells #[.int .i64 x282000_1, .int .i64 x282001_1, .int .i64 x282002_1] 73 (0, 0)) (nB_ BK281.out)) : gb281 ≠ gb291)); have n9_ := Aside0.mk ((by rw [hg]; exact Nat.ne_of_gt (blk_lt (g := gb281) (o := .cells #[.int .i64 x282000_1, .int .i64 x282001_1, .int .i64 x282002_1] 73 (0, 0)) (nB_ BK281.out)) : gb291 ≠ gb281)); clear BK280; clear BK281; clear HB; have BK280 := n0_; have BK281 := n1_; have HB := n2_; have BK291 := n3_; have GW291 := n4_; have GE291 := n5_; have NB280_291 := n6_; have NB291_280 := n7_; have NB281_291 := n8_; have NB291_281 := n9_; clear n0_ n1_ n2_ n3_ n4_ n5_ n6_ n7_ n8_ n9_; clear hb hbox hg; have hnb59 := NB291_280.out; have hnc59 := NB280_291.out; have hnb60 := NB291_281.out; have hnc60 := NB281_291.out; have hcz61_0 : w58.cell? ⟨gb291, 0, none⟩ = some (.int .i64 0) := (blk_cell BK291.out 0).trans rfl; have hcz61_1 : w58.cell? ⟨gb291, 1, none⟩ = some (.int .i64 0) := (blk_cell BK291.out 1).trans rfl; have hcz61_2 : w58.cell? ⟨gb291, 2, none⟩ = some (.int .i64 0) := (blk_cell BK291.out 2).trans rfl; have hfz61_0 := blk_frozen BK291.out 0; have hfz61_1 := blk_frozen BK291.out 1; have hfz61_2 := blk_frozen BK291.out 2; have hcz62_0 : w58.cell? ⟨gb280, 0, none⟩ = some (.int .i64 x281000_1) := (blk_cell BK280.out 0).trans rfl; have hcz62_1 : w58.cell? ⟨gb280, 1, none⟩ = some (.int .i64 x281001_1) := (blk_cell BK280.out 1).trans rfl; have hcz62_2 : w58.cell? ⟨gb280, 2, none⟩ = some (.int .i64 x281002_2) := (blk_cell BK280.out 2).trans rfl; have hfz62_0 := blk_frozen BK280.out 0; have hfz62_1 := blk_frozen BK280.out 1; have hfz62_2 := blk_frozen BK280.out 2; have hcz63_0 : w58.cell? ⟨gb281, 0, none⟩ = some (.int .i64 x282000_1) := (blk_cell BK281.out 0).trans rfl; have hcz63_1 : w58.cell? ⟨gb281, 1, none⟩ = some (.int .i64 x282001_1) := (blk_cell BK281.out 1).trans rfl; have hcz63_2 : w58.cell? ⟨gb281, 2, none⟩ = some (.int .i64 x282002_1) := (blk_cell BK281.out 2).trans rfl; have hfz63_0 := blk_frozen BK281.out 0; have hfz63_1 := blk_frozen BK281.out 1; have hfz63_2 := blk_frozen BK281.out 2))
         refine bodyPost_ret (results_cell_row rfl _ _ gb281 73 #[.int .i64 x281000_1, .int .i64 x281001_1, .int .i64 x281002_2] (0, 0) _ rfl (by (with_reducible repeat (first | refine blk_drewN ?_ _ | refine blk_drew ?_ | refine blk_alloc ?_ _)); refine blk_put (cs := #[.int .i64 x281000_1, .int .i64 x281001_1, .int .i64 x282002_1]) ?_ 2 _ rfl; (with_reducible repeat (first | refine blk_drewN ?_ _ | refine blk_drew ?_ | refine blk_alloc ?_ _)); refine blk_put (cs := #[.int .i64 x281000_1, .int .i64 x282001_1, .int .i64 x282002_1]) ?_ 1 _ rfl; (with_reducible repeat (first | refine blk_drewN ?_ _ | refine blk_drew ?_ | refine blk_alloc ?_ _)); refine blk_put (cs := #[.int .i64 x282000_1, .int .i64 x282001_1, .int .i64 x282002_1]) ?_ 0 _ rfl; (with_reducible repeat (first | refine blk_drewN ?_ _ | refine blk_drew ?_ | refine blk_alloc ?_ _)); refine blk_far ?_ NB281_291.out _; (with_reducible repeat (first | refine blk_drewN ?_ _ | refine blk_drew ?_ | refine blk_alloc ?_ _)); refine blk_far ?_ NB281_291.out _; (with_reducible repeat (first | refine blk_drewN ?_ _ | refine blk_drew ?_ | refine blk_alloc ?_ _)); refine blk_far ?_ NB281_291.out _; (with_reducible repeat (first | refine blk_drewN ?_ _ | refine blk_drew ?_ | refine blk_alloc ?_ _)); exact BK281.out) Try.underlying73 rfl (by kernel_rfl)) rfl ?_
         exact ⟨by first | rfl | (simp [errW_none, errW_some] <;> rfl) | (simp only [← hji53]; first | rfl | (simp [errW_none, errW_some] <;> rfl)) | (simp [*, errW_none, errW_some] <;> rfl), by repeat (first | (with_reducible first | exact HB.out | apply below_alloc | apply pw_below_drewN | apply below_drew1 | refine below_set ?_ GE280.out | refine below_set ?_ GE281.out | refine below_set ?_ GE291.out) | exact HB.out)⟩
       · rw [if_neg c54] at H
         have c54b0 : decide ((ji53) < 1) = false := decide_eq_false c54
         clear c54
         obtain ⟨ji64, hji64⟩ : ∃ j_ : Int, (mx t288 t289) = j_ := ⟨_, rfl⟩
         replace H : (if (ji64) > t282 then (some (x281000_1, x281001_1, x281002_2)) else (veils_heights_follow.l0 k2 l0 t282 t288 t289 t290)) = some (r1, r2, r3) := by first | (rw [hji64] at H; exact H) | (simp only [hji64] at H ⊢; exact H)
         (try rw [hji64] at A52)
         have hji64_ : (if t288 < t289 then t289 else t288) = ji64 := hji64
         by_cases c65 : (ji64) > t282
         · rw [if_pos c65] at H
           have c65b0 : decide (t282 < (ji64)) = true := decide_eq_true c65
           clear c65
           simp only [Option.some.injEq, Prod.mk.injEq] at H
           obtain ⟨rfl, rfl, rfl⟩ := H
           have hnb66 := NB280_281.out
           have hnc66 := NB281_280.out
           have hcz67_0 : wr.cell? ⟨gb280, 0, none⟩ = some (.int .i64 x281000_1) := (blk_cell BK280.out 0).trans rfl
           have hcz67_1 : wr.cell? ⟨gb280, 1, none⟩ = some (.int .i64 x281001_1) := (blk_cell BK280.out 1).trans rfl
           have hcz67_2 : wr.cell? ⟨gb280, 2, none⟩ = some (.int .i64 x281002_2) := (blk_cell BK280.out 2).trans rfl
           have hfz67_0 := blk_frozen BK280.out 0
           have hfz67_1 := blk_frozen BK280.out 1
           have hfz67_2 := blk_frozen BK280.out 2
           go_wp2_with (first | ((with_reducible refine gate_callee (f := 78) rfl ?_); refine goesL_ (some 33) rfl rfl Try.func78 (by kernel_rfl) rfl #[.agg #[.int .i64 x281000_1, .int .i64 x281001_1, .int .i64 x281002_2]] rfl ar_ ?_; (with_reducible refine (veils_knot_step.calls x281000_1 x281001_1 x281002_2 t288 t289 t290 _ A52.out).mono ?_); rintro e w68 ⟨rfl, hb⟩; refine ⟨_, rfl, ?_⟩; have n0_ := Aside0.mk (blk_below (g := gb280) (o := .cells #[.int .i64 x281000_1, .int .i64 x281001_1, .int .i64 x281002_2] 73 (0, 0)) (nB_ BK280.out) hb); have n1_ := Aside0.mk (blk_below (g := gb281) (o := .cells #[.int .i64 x282000_1, .int .i64 x282001_1, .int .i64 x282002_1] 73 (0, 0)) (nB_ BK281.out) hb); have n2_ := Aside0.mk (below_step (belG_) hb); clear BK280; clear BK281; clear HB; have BK280 := n0_; have BK281 := n1_; have HB := n2_; clear n0_ n1_ n2_; (try clear hb); (try clear hb2); (try clear hk); (try clear hi)) | ((with_reducible refine gate_dst (N := 8) rfl ?_); (try (refine gate_guard (by rfl) ?_; dsimp only)); refine box_event ?hg (N := 8) ?hd (cs := #[.int .i64 0, .int .i64 0, .int .i64 0]) (t := 73) ?hr ?_; (case hd => rfl); (case hg => rfl); (case hr => first | (go_simp; done) | (go_simp; rfl)); intro gb291 hg w69 hbox hb; have n0_ := Aside0.mk (blk_below (g := gb280) (o := .cells #[.int .i64 x281000_1, .int .i64 x281001_1, .int .i64 x281002_2] 73 (0, 0)) (nB_ BK280.out) hb); have n1_ := Aside0.mk (blk_below (g := gb281) (o := .cells #[.int .i64 x282000_1, .int .i64 x282001_1, .int .i64 x282002_1] 73 (0, 0)) (nB_ BK281.out) hb); have n2_ := Aside0.mk (below_step (belG_) hb); have n3_ := Aside0.mk (hbox); have n4_ := Aside0.mk ((by rw [hg]; exact (below_size (belG_)) : w.heap.size ≤ gb291)); have n5_ := Aside0.mk ((by rw [hg]; exact (below_size (belG_)) : w.heap.size ≤ gb291)); have n6_ := Aside0.mk ((by rw [hg]; exact Nat.ne_of_lt (blk_lt (g := gb280) (o := .cells #[.int .i64 x281000_1, .int .i64 x281001_1, .int .i64 x281002_2] 73 (0, 0)) (nB_ BK280.out)) : gb280 ≠ gb291)); have n7_ := Aside0.mk ((by rw [hg]; exact Nat.ne_of_gt (blk_lt (g := gb280) (o := .cells #[.int .i64 x281000_1, .int .i64 x281001_1, .int .i64 x281002_2] 73 (0, 0)) (nB_ BK280.out)) : gb291 ≠ gb280)); have n8_ := Aside0.mk ((by rw [hg]; exact Nat.ne_of_lt (blk_lt (g := gb281) (o := .cells #[.int .i64 x282000_1, .int .i64 x282001_1, .int .i64 x282002_1] 73 (0, 0)) (nB_ BK281.out)) : gb281 ≠ gb291)); have n9_ := Aside0.mk ((by rw [hg]; exact Nat.ne_of_gt (blk_lt (g := gb281) (o := .cells #[.int .i64 x282000_1, .int .i64 x282001_1, .int .i64 x282002_1] 73 (0, 0)) (nB_ BK281.out)) : gb291 ≠ gb281)); clear BK280; clear BK281; clear HB; have BK280 := n0_; have BK281 := n1_; have HB := n2_; have BK291 := n3_; have GW291 := n4_; have GE291 := n5_; have NB280_291 := n6_; have NB291_280 := n7_; have NB281_291 := n8_; have NB291_281 := n9_; clear n0_ n1_ n2_ n3_ n4_ n5_ n6_ n7_ n8_ n9_; clear hb hbox hg; have hnb70 := NB291_280.out; have hnc70 := NB280_291.out; have hnb71 := NB291_281.out; have hnc71 := NB281_291.out; have hcz72_0 : w69.cell? ⟨gb291, 0, none⟩ = some (.int .i64 0) := (blk_cell BK291.out 0).trans rfl; have hcz72_1 : w69.cell? ⟨gb291, 1, none⟩ = some (.int .i64 0) := (blk_cell BK291.out 1).trans rfl; have hcz72_2 : w69.cell? ⟨gb291, 2, none⟩ = some (.int .i64 0) := (blk_cell BK291.out 2).trans rfl; have hfz72_0 := blk_frozen BK291.out 0; have hfz72_1 := blk_frozen BK291.out 1; have hfz72_2 := blk_frozen BK291.out 2; have hcz73_0 : w69.cell? ⟨gb280, 0, none⟩ = some (.int .i64 x281000_1) := (blk_cell BK280.out 0).trans rfl; have hcz73_1 : w69.cell? ⟨gb280, 1, none⟩ = some (.int .i64 x281001_1) := (blk_cell BK280.out 1).trans rfl; have hcz73_2 : w69.cell? ⟨gb280, 2, none⟩ = some (.int .i64 x281002_2) := (blk_cell BK280.out 2).trans rfl; have hfz73_0 := blk_frozen BK280.out 0; have hfz73_1 := blk_frozen BK280.out 1; have hfz73_2 := blk_frozen BK280.out 2; have hcz74_0 : w69.cell? ⟨gb281, 0, none⟩ = some (.int .i64 x282000_1) := (blk_cell BK281.out 0).trans rfl; have hcz74_1 : w69.cell? ⟨gb281, 1, none⟩ = some (.int .i64 x282001_1) := (blk_cell BK281.out 1).trans rfl; have hcz74_2 : w69.cell? ⟨gb281, 2, none⟩ = some (.int .i64 x282002_1) := (blk_cell BK281.out 2).trans rfl; have hfz74_0 := blk_frozen BK281.out 0; have hfz74_1 := blk_frozen BK281.out 1; have hfz74_2 := blk_frozen BK281.out 2))
           refine bodyPost_ret (results_cell_row rfl _ _ gb281 73 #[.int .i64 x281000_1, .int .i64 x281001_1, .int .i64 x281002_2] (0, 0) _ rfl (by (with_reducible repeat (first | refine blk_drewN ?_ _ | refine blk_drew ?_ | refine blk_alloc ?_ _)); refine blk_put (cs := #[.int .i64 x281000_1, .int .i64 x281001_1, .int .i64 x282002_1]) ?_ 2 _ rfl; (with_reducible repeat (first | refine blk_drewN ?_ _ | refine blk_drew ?_ | refine blk_alloc ?_ _)); refine blk_put (cs := #[.int .i64 x281000_1, .int .i64 x282001_1, .int .i64 x282002_1]) ?_ 1 _ rfl; (with_reducible repeat (first | refine blk_drewN ?_ _ | refine blk_drew ?_ | refine blk_alloc ?_ _)); refine blk_put (cs := #[.int .i64 x282000_1, .int .i64 x282001_1, .int .i64 x282002_1]) ?_ 0 _ rfl; (with_reducible repeat (first | refine blk_drewN ?_ _ | refine blk_drew ?_ | refine blk_alloc ?_ _)); refine blk_far ?_ NB281_291.out _; (with_reducible repeat (first | refine blk_drewN ?_ _ | refine blk_drew ?_ | refine blk_alloc ?_ _)); refine blk_far ?_ NB281_291.out _; (with_reducible repeat (first | refine blk_drewN ?_ _ | refine blk_drew ?_ | refine blk_alloc ?_ _)); refine blk_far ?_ NB281_291.out _; (with_reducible repeat (first | refine blk_drewN ?_ _ | refine blk_drew ?_ | refine blk_alloc ?_ _)); exact BK281.out) Try.underlying73 rfl (by kernel_rfl)) rfl ?_
           exact ⟨by first | rfl | (simp [errW_none, errW_some] <;> rfl) | (simp only [← hji53, ← hji64]; first | rfl | (simp [errW_none, errW_some] <;> rfl)) | (simp [*, errW_none, errW_some] <;> rfl), by repeat (first | (with_reducible first | exact HB.out | apply below_alloc | apply pw_below_drewN | apply below_drew1 | refine below_set ?_ GE280.out | refine below_set ?_ GE281.out | refine below_set ?_ GE291.out) | exact HB.out)⟩
         · rw [if_neg c65] at H
           have c65b0 : decide (t282 < (ji64)) = false := decide_eq_false c65
           clear c65
           have H' := Aside0.mk H
           clear H
           have hnb75 := NB280_281.out
           have hnc75 := NB281_280.out
           have hcz76_0 : wr.cell? ⟨gb280, 0, none⟩ = some (.int .i64 x281000_1) := (blk_cell BK280.out 0).trans rfl
           have hcz76_1 : wr.cell? ⟨gb280, 1, none⟩ = some (.int .i64 x281001_1) := (blk_cell BK280.out 1).trans rfl
           have hcz76_2 : wr.cell? ⟨gb280, 2, none⟩ = some (.int .i64 x281002_2) := (blk_cell BK280.out 2).trans rfl
           have hfz76_0 := blk_frozen BK280.out 0
           have hfz76_1 := blk_frozen BK280.out 1
           have hfz76_2 := blk_frozen BK280.out 2
           go_wp2_with (first | ((with_reducible refine gate_callee (f := 78) rfl ?_); refine goesL_ (some 33) rfl rfl Try.func78 (by kernel_rfl) rfl #[.agg #[.int .i64 x281000_1, .int .i64 x281001_1, .int .i64 x281002_2]] rfl ar_ ?_; (with_reducible refine (veils_knot_step.calls x281000_1 x281001_1 x281002_2 t288 t289 t290 _ A52.out).mono ?_); rintro e w77 ⟨rfl, hb⟩; refine ⟨_, rfl, ?_⟩; have n0_ := Aside0.mk (blk_below (g := gb280) (o := .cells #[.int .i64 x281000_1, .int .i64 x281001_1, .int .i64 x281002_2] 73 (0, 0)) (nB_ BK280.out) hb); have n1_ := Aside0.mk (blk_below (g := gb281) (o := .cells #[.int .i64 x282000_1, .int .i64 x282001_1, .int .i64 x282002_1] 73 (0, 0)) (nB_ BK281.out) hb); have n2_ := Aside0.mk (below_step (belG_) hb); clear BK280; clear BK281; clear HB; have BK280 := n0_; have BK281 := n1_; have HB := n2_; clear n0_ n1_ n2_; (try clear hb); (try clear hb2); (try clear hk); (try clear hi)) | ((with_reducible refine gate_dst (N := 8) rfl ?_); (try (refine gate_guard (by rfl) ?_; dsimp only)); refine box_event ?hg (N := 8) ?hd (cs := #[.int .i64 0, .int .i64 0, .int .i64 0]) (t := 73) ?hr ?_; (case hd => rfl); (case hg => rfl); (case hr => first | (go_simp; done) | (go_simp; rfl)); intro gb291 hg w78 hbox hb; have n0_ := Aside0.mk (blk_below (g := gb280) (o := .cells #[.int .i64 x281000_1, .int .i64 x281001_1, .int .i64 x281002_2] 73 (0, 0)) (nB_ BK280.out) hb); have n1_ := Aside0.mk (blk_below (g := gb281) (o := .cells #[.int .i64 x282000_1, .int .i64 x282001_1, .int .i64 x282002_1] 73 (0, 0)) (nB_ BK281.out) hb); have n2_ := Aside0.mk (below_step (belG_) hb); have n3_ := Aside0.mk (hbox); have n4_ := Aside0.mk ((by rw [hg]; exact (below_size (belG_)) : w.heap.size ≤ gb291)); have n5_ := Aside0.mk ((by rw [hg]; exact (below_size (belG_)) : w.heap.size ≤ gb291)); have n6_ := Aside0.mk ((by rw [hg]; exact Nat.ne_of_lt (blk_lt (g := gb280) (o := .cells #[.int .i64 x281000_1, .int .i64 x281001_1, .int .i64 x281002_2] 73 (0, 0)) (nB_ BK280.out)) : gb280 ≠ gb291)); have n7_ := Aside0.mk ((by rw [hg]; exact Nat.ne_of_gt (blk_lt (g := gb280) (o := .cells #[.int .i64 x281000_1, .int .i64 x281001_1, .int .i64 x281002_2] 73 (0, 0)) (nB_ BK280.out)) : gb291 ≠ gb280)); have n8_ := Aside0.mk ((by rw [hg]; exact Nat.ne_of_lt (blk_lt (g := gb281) (o := .cells #[.int .i64 x282000_1, .int .i64 x282001_1, .int .i64 x282002_1] 73 (0, 0)) (nB_ BK281.out)) : gb281 ≠ gb291)); have n9_ := Aside0.mk ((by rw [hg]; exact Nat.ne_of_gt (blk_lt (g := gb281) (o := .cells #[.int .i64 x282000_1, .int .i64 x282001_1, .int .i64 x282002_1] 73 (0, 0)) (nB_ BK281.out)) : gb291 ≠ gb281)); clear BK280; clear BK281; clear HB; have BK280 := n0_; have BK281 := n1_; have HB := n2_; have BK291 := n3_; have GW291 := n4_; have GE291 := n5_; have NB280_291 := n6_; have NB291_280 := n7_; have NB281_291 := n8_; have NB291_281 := n9_; clear n0_ n1_ n2_ n3_ n4_ n5_ n6_ n7_ n8_ n9_; clear hb hbox hg; have hnb79 := NB291_280.out; have hnc79 := NB280_291.out; have hnb80 := NB291_281.out; have hnc80 := NB281_291.out; have hcz81_0 : w78.cell? ⟨gb291, 0, none⟩ = some (.int .i64 0) := (blk_cell BK291.out 0).trans rfl; have hcz81_1 : w78.cell? ⟨gb291, 1, none⟩ = some (.int .i64 0) := (blk_cell BK291.out 1).trans rfl; have hcz81_2 : w78.cell? ⟨gb291, 2, none⟩ = some (.int .i64 0) := (blk_cell BK291.out 2).trans rfl; have hfz81_0 := blk_frozen BK291.out 0; have hfz81_1 := blk_frozen BK291.out 1; have hfz81_2 := blk_frozen BK291.out 2; have hcz82_0 : w78.cell? ⟨gb280, 0, none⟩ = some (.int .i64 x281000_1) := (blk_cell BK280.out 0).trans rfl; have hcz82_1 : w78.cell? ⟨gb280, 1, none⟩ = some (.int .i64 x281001_1) := (blk_cell BK280.out 1).trans rfl; have hcz82_2 : w78.cell? ⟨gb280, 2, none⟩ = some (.int .i64 x281002_2) := (blk_cell BK280.out 2).trans rfl; have hfz82_0 := blk_frozen BK280.out 0; have hfz82_1 := blk_frozen BK280.out 1; have hfz82_2 := blk_frozen BK280.out 2))
           go_roundg k2
           case measure => have := HK1.out; have := HK2.out; omega
           case rel => exact ⟨(t288), (t289), (t290), (x282000_1), (x282001_1), (x282002_1), H', ⟨by have := HK1.out; have := HK2.out; omega⟩, ⟨by (with_reducible repeat (first | refine blk_drewN ?_ _ | refine blk_drew ?_ | refine blk_alloc ?_ _)); refine blk_put (cs := #[.int .i64 t288, .int .i64 t289, .int .i64 x281002_2]) ?_ 2 _ rfl; (with_reducible repeat (first | refine blk_drewN ?_ _ | refine blk_drew ?_ | refine blk_alloc ?_ _)); refine blk_put (cs := #[.int .i64 t288, .int .i64 x281001_1, .int .i64 x281002_2]) ?_ 1 _ rfl; (with_reducible repeat (first | refine blk_drewN ?_ _ | refine blk_drew ?_ | refine blk_alloc ?_ _)); refine blk_put (cs := #[.int .i64 x281000_1, .int .i64 x281001_1, .int .i64 x281002_2]) ?_ 0 _ rfl; (with_reducible repeat (first | refine blk_drewN ?_ _ | refine blk_drew ?_ | refine blk_alloc ?_ _)); refine blk_far ?_ NB280_291.out _; (with_reducible repeat (first | refine blk_drewN ?_ _ | refine blk_drew ?_ | refine blk_alloc ?_ _)); refine blk_far ?_ NB280_291.out _; (with_reducible repeat (first | refine blk_drewN ?_ _ | refine blk_drew ?_ | refine blk_alloc ?_ _)); refine blk_far ?_ NB280_291.out _; (with_reducible repeat (first | refine blk_drewN ?_ _ | refine blk_drew ?_ | refine blk_alloc ?_ _)); exact BK280.out⟩, ⟨by (with_reducible repeat (first | refine blk_drewN ?_ _ | refine blk_drew ?_ | refine blk_alloc ?_ _)); refine blk_far ?_ NB281_280.out _; (with_reducible repeat (first | refine blk_drewN ?_ _ | refine blk_drew ?_ | refine blk_alloc ?_ _)); refine blk_far ?_ NB281_280.out _; (with_reducible repeat (first | refine blk_drewN ?_ _ | refine blk_drew ?_ | refine blk_alloc ?_ _)); refine blk_far ?_ NB281_280.out _; (with_reducible repeat (first | refine blk_drewN ?_ _ | refine blk_drew ?_ | refine blk_alloc ?_ _)); refine blk_far ?_ NB281_291.out _; (with_reducible repeat (first | refine blk_drewN ?_ _ | refine blk_drew ?_ | refine blk_alloc ?_ _)); refine blk_far ?_ NB281_291.out _; (with_reducible repeat (first | refine blk_drewN ?_ _ | refine blk_drew ?_ | refine blk_alloc ?_ _)); refine blk_far ?_ NB281_291.out _; (with_reducible repeat (first | refine blk_drewN ?_ _ | refine blk_drew ?_ | refine blk_alloc ?_ _)); exact BK281.out⟩, ⟨by repeat (first | (with_reducible first | exact HB.out | apply below_alloc | apply pw_below_drewN | apply below_drew1 | refine below_set ?_ GE280.out | refine below_set ?_ GE281.out | refine below_set ?_ GE291.out) | exact HB.out)⟩⟩

end Go.Proofs.Ytdinepghommchaa.V

-- Written by a program of this session over the kit's printer: wip/gp.py.
namespace Go.Proofs.Ytdinepghommchaa.V
open Go.RowKit Go.Proofs.YtdinepghommchaaW.PrintWords Go.Proofs.YtdinepghommchaaW.PrintLast Go.Proofs.YtdinepghommchaaW.PrintMore
attribute [local go_sem] max2_int min2_int max_two min_two max_three min_three max_four min_four   -- for this text's walks alone
set_option linter.unusedVariables false
set_option linter.unusedSimpArgs false

/-! ### veils_heights_pairing: function 50 -/
def veils_heights_pairing.l0 : Nat → List (List Int) → List (S73) → List Int → List (S73) → Int → Int → Option (List Int)
 | 0, _, _, _, _, _, _ => none
 | k + 1, x0, x3, x4, x9, x10, x11 => if x11 < x10 then (if 0 ≤ x11 then (if x11 < (x9.length : Int) then ((veils_heights_follow.f k x0 ((rd_T73 x9 x11).f0) ((rd_T73 x9 x11).f1) ((rd_T73 x9 x11).f2)).bind fun bt297 => ((veils_knot.f k x3 bt297.1 bt297.2.1 bt297.2.2).bind fun t300 => (if x4.length < 17592186044416 then (veils_heights_pairing.l0 k x0 x3 (x4 ++ [t300]) x9 x10 (wrap64 (x11 + 1))) else (none)))) else (none)) else (none)) else (some x4)
def veils_heights_pairing.f (k : Nat) (l0 : List (List Int)) : Option (List Int) := (veils_heights_ends.f l0).bind fun t292 => (veils_heights_pairing.l0 k l0 t292 ([] : List Int) t292 (t292.length : Int) 0)
set_option maxHeartbeats 8000000 in
set_option maxRecDepth 100000 in
theorem veils_heights_pairing.calls (k : Nat) (A0 : Option Addr) (c0 : Nat) (l0 : List (List Int)) (r : List Int) (w : World) (hr0 : Kd.C (Kd.slice 3 (Kd.int .i64)) w A0 l0.length l0) (hc0 : l0.length ≤ c0) (h : veils_heights_pairing.f k l0 = some r) :
 Calls Try.prog 50 #[.slice A0 l0.length c0] w fun e w' => ∃ v0_ : Value, e = .returned (v0_) ∧ Kd.R (Kd.int .i64) 3 w' w.heap.size (fun _ => True) v0_ r ∧ Below w.heap.size w w' := by
 have hu73 := Try.underlying73
 have HR0 := Aside0.mk hr0
 have HC0 := Aside0.mk hc0
 clear hr0 hc0
 have HB := Aside0.mk (Below.refl w.heap.size w)
 have H : ((veils_heights_ends.f l0).bind fun t292 => (veils_heights_pairing.l0 k l0 t292 ([] : List Int) t292 (t292.length : Int) 0)) = some r := h
 clear h
 replace H := Option.bind_eq_some_iff.mp H
 obtain ⟨t292, A20, H⟩ := H
 replace H : (veils_heights_pairing.l0 k l0 t292 ([] : List Int) t292 (t292.length : Int) 0) = some r := H
 have A2 := Aside0.mk A20
 clear A20
 have H' := Aside0.mk H
 clear H
 go_enter Try.func50, Try.ntmps50
 go_wp2_with (first | ((with_reducible refine gate_callee (f := 65) rfl ?_); refine goesL_ (some 8) rfl rfl Try.func65 (by kernel_rfl) rfl #[.slice A0 l0.length c0] rfl ar_ ?_; (with_reducible refine (veils_heights_ends.calls _ _ l0 t292 _ ?side1 ?side2 A2.out).mono ?_); (case side1 => repeat (first | exact HR0.out | (with_reducible refine Kd.C_alloc ?_ _) | (with_reducible refine Kd.C_drewN ?_ _) | (with_reducible refine Kd.C_drew ?_))); (case side2 => exact HC0.out); rintro e w3 ⟨v293, rfl, ho0, hb⟩; refine ⟨_, rfl, ?_⟩; have n0_ := Aside0.mk (Kd.R_lower ho0 (below_size (bel_))); have n1_ := Aside0.mk (below_step (bel_) hb); clear HB; have HO294 := n0_; have HB := n1_; clear n0_ n1_; (try clear hb); (try clear hb2); (try clear hk); (try clear hi); (try clear ho0); obtain ⟨Ao4, co4, eo4⟩ := Kd.R_slice HO294.out; subst eo4))
 go_loopg [4, 11] k (fun kq v4 v11 w' => ∃ (x4_1 : List Int) (x11_1 : Int), v11 = .int .i64 x11_1 ∧ Aside0 (veils_heights_pairing.l0 kq l0 t292 x4_1 t292 (t292.length : Int) x11_1 = some r) ∧ Aside0 (kq ≤ k) ∧ Aside0 (Kd.R k73 73 w' w.heap.size (fun _ => True) (.slice Ao4 t292.length co4) t292) ∧ Aside0 (Kd.R (Kd.int .i64) 3 w' w.heap.size (fun _ => True) v4 x4_1) ∧ Aside0 (Kd.R k73 73 w' w.heap.size (fun _ => True) (.slice Ao4 t292.length co4) t292) ∧ Aside0 (Below w.heap.size w w'))
 case atStart => exact ⟨(([] : List Int)), (0), rf_, H', ⟨Nat.le_refl _⟩, ⟨nR_ HO294.out⟩, ⟨by first | exact Kd.R_nil _ _ _ _ _ | exact Kd.N_nil _ _ _ _ _ | exact Kd.V_nil _ _ _ _ _ | exact Kd.Q_nil _ _ _ _ _ | exact Kd.S_nil _ _ _ _ _⟩, ⟨nR_ HO294.out⟩, ⟨bel_⟩⟩
 case round =>
  clear H'
  try clear p2
  obtain ⟨x4_1, x11_1, rfl, HA, HK1, HO_3, HO_4, HO_9, HB⟩ := hrel
  cases gk with
  | zero => exact absurd HA.out (by simp [veils_heights_pairing.l0])
  | succ k1 =>
   have H := HA.out
   clear HA
   simp only [veils_heights_pairing.l0] at H
   by_cases c5 : x11_1 < (t292.length : Int)
   · rw [if_pos c5] at H
     have c5b0 : decide (x11_1 < (t292.length : Int)) = true := decide_eq_true c5
     clear c5
     by_cases c6 : 0 ≤ x11_1
     · rw [if_pos c6] at H
       have c6b0 : decide (0 ≤ x11_1) = true := decide_eq_true c6
       clear c6
       by_cases c7 : x11_1 < (t292.length : Int)
       · rw [if_pos c7] at H
         have c7b0 : decide (x11_1 < (t292.length : Int)) = true := decide_eq_true c7
         clear c7
         replace H := Option.bind_eq_some_iff.mp H
         obtain ⟨⟨t297, t298, t299⟩, A80, H⟩ := H
         replace H : ((veils_knot.f k1 t292 t297 t298 t299).bind fun t300 => (if x4_1.length < 17592186044416 then (veils_heights_pairing.l0 k1 l0 t292 (x4_1 ++ [t300]) t292 (t292.length : Int) (wrap64 (x11_1 + 1))) else (none))) = some r := H
         have A8 := Aside0.mk A80
         clear A80
         replace H := Option.bind_eq_some_iff.mp H
         obtain ⟨t300, A90, H⟩ := H
         replace H : (if x4_1.length < 17592186044416 then (veils_heights_pairing.l0 k1 l0 t292 (x4_1 ++ [t300]) t292 (t292.length : Int) (wrap64 (x11_1 + 1))) else (none)) = some r := H
         have A9 := Aside0.mk A90
         clear A90
         by_cases c10 : x4_1.length < 17592186044416
         · rw [if_pos c10] at H
           have LMc10 := Aside0.mk c10
           clear c10
           obtain ⟨y301, hy301⟩ : ∃ y_ : List Int, y_ = (x4_1 ++ [t300]) := ⟨_, rfl⟩
           replace H : (veils_heights_pairing.l0 k1 l0 t292 y301 t292 (t292.length : Int) (wrap64 (x11_1 + 1))) = some r := by first | (rw [hy301]; with_reducible exact H) | (have H2_ := (Option.bind_some _ _).symm.trans H; rw [hy301]; with_reducible exact H2_) | (have H2_ := (Option.bind_some _ _).symm.trans H; with_reducible exact H2_) | with_reducible exact H | (rw [hy301]; exact H) | exact H
           have Ny301 := Aside0.mk hy301
           clear hy301
           have H' := Aside0.mk H
           clear H
           have p295 : 0 ≤ (x11_1 : Int) := od_
           have q295 : x11_1 < (t292.length : Int) := od_
           obtain ⟨ad295, e295, hx295_0, hx295_1, hx295_2⟩ := at_T73 (Kd.R_reads' HO_9.out).2.2 x11_1 p295 q295
           cases e295
           replace p295 := eq_true p295
           replace q295 := eq_true q295
           go_wp2_with (first | ((with_reducible refine gate_dst (N := 6) rfl ?_); refine box_event ?hg (N := 6) ?hd (cs := #[.int .i64 0, .int .i64 0, .int .i64 0]) (t := 73) ?hr ?_; (case hd => rfl); (case hg => rfl); (case hr => first | (go_simp; done) | (go_simp; rfl)); intro gb296 hg w11 hbox hb; have n0_ := Aside0.mk (Kd.R_below (Kd.R_elderB (nR_ HO_3.out) gb296 (Nat.le_of_eq hg.symm)) hb); have n1_ := Aside0.mk (Kd.R_below (nR_ HO_4.out) hb); have n2_ := Aside0.mk (Kd.R_below (Kd.R_elderB (nR_ HO_9.out) gb296 (Nat.le_of_eq hg.symm)) hb); have n3_ := Aside0.mk (below_step (bel_) hb); have n4_ := Aside0.mk (hbox); have n5_ := Aside0.mk ((by rw [hg]; exact (below_size (bel_)) : w.heap.size ≤ gb296)); have n6_ := Aside0.mk ((by rw [hg]; exact (below_size (bel_)) : w.heap.size ≤ gb296)); clear HO_3; clear HO_4; clear HO_9; clear HB; have HO_3 := n0_; have HO_4 := n1_; have HO_9 := n2_; have HB := n3_; have BK296 := n4_; have GW296 := n5_; have GE296 := n6_; clear n0_ n1_ n2_ n3_ n4_ n5_ n6_; clear hb hbox hg; have hcz12_0 : w11.cell? ⟨gb296, 0, none⟩ = some (.int .i64 0) := (blk_cell BK296.out 0).trans rfl; have hcz12_1 : w11.cell? ⟨gb296, 1, none⟩ = some (.int .i64 0) := (blk_cell BK296.out 1).trans rfl; have hcz12_2 : w11.cell? ⟨gb296, 2, none⟩ = some (.int .i64 0) := (blk_cell BK296.out 2).trans rfl; have hfz12_0 := blk_frozen BK296.out 0; have hfz12_1 := blk_frozen BK296.out 1; have hfz12_2 := blk_frozen BK296.out 2) | ((with_reducible refine gate_callee (f := 67) rfl ?_); refine goesL_ (some 19) rfl rfl Try.func67 (by kernel_rfl) rfl #[.slice A0 l0.length c0, .agg #[.int .i64 ((rd_T73 t292 x11_1).f0), .int .i64 ((rd_T73 t292 x11_1).f1), .int .i64 ((rd_T73 t292 x11_1).f2)]] rfl ar_ ?_; (with_reducible refine (veils_heights_follow.calls k1 _ _ l0 ((rd_T73 t292 x11_1).f0) ((rd_T73 t292 x11_1).f1) ((rd_T73 t292 x11_1).f2) t297 t298 t299 _ ?side1 ?side2 A8.out).mono ?_); (case side1 => exact Kd.C_below HR0.out (by repeat (first | (with_reducible first | exact HB.out | apply below_alloc | apply pw_below_drewN | apply below_drew1 | refine below_set ?_ GE296.out) | exact HB.out))); (case side2 => exact HC0.out); rintro e w13 ⟨rfl, hb⟩; refine ⟨_, rfl, ?_⟩; have n0_ := Aside0.mk (Kd.R_below (by (with_reducible repeat (first | apply Kd.R_alloc | apply Kd.R_drewN | apply Kd.R_drew)); exact (Kd.R_mono (Kd.R_far (p := ⟨gb296, 2, none⟩) (Kd.R_far (p := ⟨gb296, 1, none⟩) (Kd.R_far (p := ⟨gb296, 0, none⟩) (Kd.R_mono HO_3.out (fun k_ hk => (⟨hk, hk.2⟩ : _ ∧ k_ ≠ gb296))) (fun _ hk => hk.2) (.int .i64 ((rd_T73 t292 x11_1).f0))) (fun _ hk => hk.2) (.int .i64 ((rd_T73 t292 x11_1).f1))) (fun _ hk => hk.2) (.int .i64 ((rd_T73 t292 x11_1).f2))) (fun _ h_ => h_.1))) hb); have n1_ := Aside0.mk (Kd.R_below (by (with_reducible repeat (first | apply Kd.R_alloc | apply Kd.R_drewN | apply Kd.R_drew)); exact (Kd.R_mono (Kd.R_far (p := ⟨gb296, 2, none⟩) (Kd.R_far (p := ⟨gb296, 1, none⟩) (Kd.R_far (p := ⟨gb296, 0, none⟩) (Kd.R_types HO_4.out BK296.out (by decide)) (fun _ hk => hk.2) (.int .i64 ((rd_T73 t292 x11_1).f0))) (fun _ hk => hk.2) (.int .i64 ((rd_T73 t292 x11_1).f1))) (fun _ hk => hk.2) (.int .i64 ((rd_T73 t292 x11_1).f2))) (fun _ h_ => h_.1))) hb); have n2_ := Aside0.mk (Kd.R_below (by (with_reducible repeat (first | apply Kd.R_alloc | apply Kd.R_drewN | apply Kd.R_drew)); exact (Kd.R_mono (Kd.R_far (p := ⟨gb296, 2, none⟩) (Kd.R_far (p := ⟨gb296, 1, none⟩) (Kd.R_far (p := ⟨gb296, 0, none⟩) (Kd.R_mono HO_9.out (fun k_ hk => (⟨hk, hk.2⟩ : _ ∧ k_ ≠ gb296))) (fun _ hk => hk.2) (.int .i64 ((rd_T73 t292 x11_1).f0))) (fun _ hk => hk.2) (.int .i64 ((rd_T73 t292 x11_1).f1))) (fun _ hk => hk.2) (.int .i64 ((rd_T73 t292 x11_1).f2))) (fun _ h_ => h_.1))) hb); have n3_ := Aside0.mk (blk_below (g := gb296) (o := .cells #[.int .i64 ((rd_T73 t292 x11_1).f0), .int .i64 ((rd_T73 t292 x11_1).f1), .int .i64 ((rd_T73 t292 x11_1).f2)] 73 (0, 0)) (by (with_reducible repeat (first | refine blk_drewN ?_ _ | refine blk_drew ?_ | refine blk_alloc ?_ _)); refine blk_put (cs := #[.int .i64 ((rd_T73 t292 x11_1).f0), .int .i64 ((rd_T73 t292 x11_1).f1), .int .i64 0]) ?_ 2 _ rfl; (with_reducible repeat (first | refine blk_drewN ?_ _ | refine blk_drew ?_ | refine blk_alloc ?_ _)); refine blk_put (cs := #[.int .i64 ((rd_T73 t292 x11_1).f0), .int .i64 0, .int .i64 0]) ?_ 1 _ rfl; (with_reducible repeat (first | refine blk_drewN ?_ _ | refine blk_drew ?_ | refine blk_alloc ?_ _)); refine blk_put (cs := #[.int .i64 0, .int .i64 0, .int .i64 0]) ?_ 0 _ rfl; (with_reducible repeat (first | refine blk_drewN ?_ _ | refine blk_drew ?_ | refine blk_alloc ?_ _)); exact BK296.out) hb); have n4_ := Aside0.mk (below_step (by repeat (first | (with_reducible first | exact HB.out | apply below_alloc | apply pw_below_drewN | apply below_drew1 | refine below_set ?_ GE296.out) | exact HB.out)) hb); clear HO_3; clear HO_4; clear HO_9; clear BK296; clear HB; have HO_3 := n0_; have HO_4 := n1_; have HO_9 := n2_; have BK296 := n3_; have HB := n4_; clear n0_ n1_ n2_ n3_ n4_; (try clear hb); (try clear hb2); (try clear hk); (try clear hi)) | ((with_reducible refine gate_callee (f := 66) rfl ?_); refine goesL_ (some 20) rfl rfl Try.func66 (by kernel_rfl) rfl #[.slice (some ad295) t292.length co4, .agg #[.int .i64 t297, .int .i64 t298, .int .i64 t299]] rfl ar_ ?_; (with_reducible refine (veils_knot.calls k1 _ _ t292 t297 t298 t299 t300 _ ?side1 ?side2 A9.out).mono ?_); (case side1 => repeat (first | exact (Kd.R_reads' HO_3.out).2.2 | (with_reducible refine Kd.C_alloc ?_ _) | (with_reducible refine Kd.C_drewN ?_ _) | (with_reducible refine Kd.C_drew ?_))); (case side2 => exact (Kd.R_reads' HO_3.out).2.1); rintro e w14 ⟨rfl, hb⟩; refine ⟨_, rfl, ?_⟩; have n0_ := Aside0.mk (Kd.R_below (nR_ HO_3.out) hb); have n1_ := Aside0.mk (Kd.R_below (nR_ HO_4.out) hb); have n2_ := Aside0.mk (Kd.R_below (nR_ HO_9.out) hb); have n3_ := Aside0.mk (blk_below (g := gb296) (o := .cells #[.int .i64 ((rd_T73 t292 x11_1).f0), .int .i64 ((rd_T73 t292 x11_1).f1), .int .i64 ((rd_T73 t292 x11_1).f2)] 73 (0, 0)) (nB_ BK296.out) hb); have n4_ := Aside0.mk (below_step (by repeat (first | (with_reducible first | exact HB.out | apply below_alloc | apply pw_below_drewN | apply below_drew1 | refine below_set ?_ GE296.out) | exact HB.out)) hb); clear HO_3; clear HO_4; clear HO_9; clear BK296; clear HB; have HO_3 := n0_; have HO_4 := n1_; have HO_9 := n2_; have BK296 := n3_; have HB := n4_; clear n0_ n1_ n2_ n3_ n4_; (try clear hb); (try clear hb2); (try clear hk); (try clear hi)) | ((with_reducible refine gate_builtin (b := .append) (xs := #[.tmp 15, .tmp 21]) rfl ?_); at_builtin; refine Kd.R_append (Kd.int .i64) (w0 := w) w.heap.size rfl (.tmp 15) (.tmp 21) 28 3 (.int .i64 0) 8 rfl Try.underlying28 info3 rfl (by decide) (by omega) u4 x4_1 t300 [.int .i64 t300] (fun _ => True) (fun _ => False) rfl rfl ?aP (fun _ hk => hk.elim) ?aF ?aO ?aB ?aS ?aL ?_; (case aP => exact rfl); (case aB => exact (by repeat (first | (with_reducible first | exact HB.out | apply below_alloc | apply pw_below_drewN | apply below_drew1 | refine below_set ?_ GE296.out) | exact HB.out))); (case aF => exact (fun _ _ => trivial)); (case aO => exact (nR_ HO_4.out)); (case aS => exact (below_size (by repeat (first | (with_reducible first | exact HB.out | apply below_alloc | apply pw_below_drewN | apply below_drew1 | refine below_set ?_ GE296.out) | exact HB.out)))); (case aL => have := LMc10.out; omega); intro v302 w15 ho hb hg hat; rw [← Ny301.out] at ho; have n0_ := Aside0.mk (Kd.R_over' (nR_ HO_3.out) (Kd.R_typed (nR_ HO_4.out)) (by decide) hg); have n1_ := Aside0.mk (Kd.R_over' (nR_ HO_9.out) (Kd.R_typed (nR_ HO_4.out)) (by decide) hg); have n2_ := Aside0.mk (blk_grown (g := gb296) (o := .cells #[.int .i64 ((rd_T73 t292 x11_1).f0), .int .i64 ((rd_T73 t292 x11_1).f1), .int .i64 ((rd_T73 t292 x11_1).f2)] 73 (0, 0)) (nB_ BK296.out) hg (Kd.R_ne HO_4.out BK296.out (by decide))); have n3_ := Aside0.mk (hb); have n4_ := Aside0.mk (ho); clear HO_3; clear HO_9; clear BK296; clear HB; clear HO_4; have HO_3 := n0_; have HO_9 := n1_; have BK296 := n2_; have HB := n3_; have HO303 := n4_; clear n0_ n1_ n2_ n3_ n4_; clear ho hb hg hat))
           go_roundg k1
           case measure => have := HK1.out; omega
           case rel => exact ⟨(y301), (wrap64 (x11_1 + 1)), rf_, H', ⟨by have := HK1.out; omega⟩, ⟨by (with_reducible repeat (first | apply Kd.R_alloc | apply Kd.R_drewN | apply Kd.R_drew)); exact Kd.R_mono HO_3.out (fun _ hk => trivial)⟩, ⟨nR_ HO303.out⟩, ⟨by (with_reducible repeat (first | apply Kd.R_alloc | apply Kd.R_drewN | apply Kd.R_drew)); exact Kd.R_mono HO_9.out (fun _ hk => trivial)⟩, ⟨by repeat (first | (with_reducible first | exact HB.out | apply below_alloc | apply pw_below_drewN | apply below_drew1 | refine below_set ?_ GE296.out) | exact HB.out)⟩⟩
         · rw [if_neg c10] at H
           exact absurd H (by simp)
       · rw [if_neg c7] at H
         exact absurd H (by simp)
     · rw [if_neg c6] at H
       exact absurd H (by simp)
   · rw [if_neg c5] at H
     have c5b0 : decide (x11_1 < (t292.length : Int)) = false := decide_eq_false c5
     clear c5
     obtain rfl := Option.some.inj H
     go_wp2
     go_ret
     exact ⟨_, er_, by (with_reducible repeat (first | apply Kd.R_alloc | apply Kd.R_drewN | apply Kd.R_drew)); exact HO_4.out, bel_⟩

end Go.Proofs.Ytdinepghommchaa.V

-- Written by a program of this session over the kit's printer: wip/gp.py.
namespace Go.Proofs.Ytdinepghommchaa.V
open Go.RowKit Go.Proofs.YtdinepghommchaaW.PrintWords Go.Proofs.YtdinepghommchaaW.PrintLast Go.Proofs.YtdinepghommchaaW.PrintMore
attribute [local go_sem] max2_int min2_int max_two min_two max_three min_three max_four min_four   -- for this text's walks alone
set_option linter.unusedVariables false
set_option linter.unusedSimpArgs false

/-! ### veils_Pairing: function 22 -/
def veils_Pairing.f (k : Nat) (l0 : List (List Int)) : Option (List Int × Int) := (veils_read.f k l0).bind fun bt304 => (if bt304.2 = true then ((veils_raised.f bt304.1).bind fun t308 => ((veils_heights_pairing.f k t308).bind fun t311 => (some (t311, 0)))) else (some (([] : List Int), 2)))
end Go.Proofs.Ytdinepghommchaa.V

/- The pairings of all listed veils, in the order of the veils. -/
namespace Go.Proofs.Ytdinepghommchaa.V
/-- The pairing of a table, as the program finds it. -/
def pairOf (t : List (List Int)) : Option (List Int) := (veils_raised.f t).bind (veils_heights_pairing.f 1000)
/-- Each table has the pairing that is told beside it. -/
def told : List (List (List Int)) → List (List Int) → Bool
 | [], [] => true
 | t :: ts, p :: ps => (pairOf t == some p) && told ts ps
 | _, _ => false
def q1_0 : List Int := [1, 0]
def pairs1 : List (List Int) := [q1_0]
def q2_0 : List Int := [1, 0, 3, 2]
def q2_1 : List Int := [3, 2, 1, 0]
def pairs2 : List (List Int) := [q2_0, q2_1]
def q3_0 : List Int := [3, 2, 1, 0, 5, 4]
def q3_1 : List Int := [5, 2, 1, 4, 3, 0]
def q3_2 : List Int := [1, 0, 3, 2, 5, 4]
def q3_3 : List Int := [1, 0, 5, 4, 3, 2]
def q3_4 : List Int := [5, 4, 3, 2, 1, 0]
def pairs3 : List (List Int) := [q3_0, q3_1, q3_2, q3_3, q3_2, q3_1, q3_4]
def q4_0 : List Int := [3, 2, 1, 0, 7, 6, 5, 4]
def q4_1 : List Int := [3, 2, 1, 0, 5, 4, 7, 6]
def q4_2 : List Int := [7, 2, 1, 4, 3, 6, 5, 0]
def q4_3 : List Int := [5, 2, 1, 4, 3, 0, 7, 6]
def q4_4 : List Int := [7, 2, 1, 6, 5, 4, 3, 0]
def q4_5 : List Int := [1, 0, 3, 2, 7, 6, 5, 4]
def q4_6 : List Int := [1, 0, 3, 2, 5, 4, 7, 6]
def q4_7 : List Int := [7, 4, 3, 2, 1, 6, 5, 0]
def q4_8 : List Int := [5, 4, 3, 2, 1, 0, 7, 6]
def q4_9 : List Int := [7, 6, 3, 2, 5, 4, 1, 0]
def q4_10 : List Int := [1, 0, 7, 4, 3, 6, 5, 2]
def q4_11 : List Int := [1, 0, 5, 4, 3, 2, 7, 6]
def q4_12 : List Int := [1, 0, 7, 6, 5, 4, 3, 2]
def q4_13 : List Int := [7, 6, 5, 4, 3, 2, 1, 0]
def pairs4 : List (List Int) := [q4_0, q4_1, q4_2, q4_3, q4_1, q4_2, q4_4, q4_5, q4_6, q4_7, q4_8, q4_6, q4_2, q4_3, q4_1, q4_3, q4_7, q4_9, q4_2, q4_4, q4_2, q4_5, q4_6, q4_6, q4_10, q4_11, q4_6, q4_11, q4_5, q4_6, q4_10, q4_12, q4_10, q4_6, q4_11, q4_7, q4_9, q4_2, q4_4, q4_2, q4_9, q4_13]
def q5_0 : List Int := [5, 4, 3, 2, 1, 0, 9, 8, 7, 6]
def q5_1 : List Int := [5, 4, 3, 2, 1, 0, 7, 6, 9, 8]
def q5_2 : List Int := [9, 4, 3, 2, 1, 6, 5, 8, 7, 0]
def q5_3 : List Int := [9, 4, 3, 2, 1, 8, 7, 6, 5, 0]
def q5_4 : List Int := [7, 4, 3, 2, 1, 6, 5, 0, 9, 8]
def q5_5 : List Int := [1, 0, 3, 2, 5, 4, 9, 8, 7, 6]
def q5_6 : List Int := [1, 0, 3, 2, 5, 4, 7, 6, 9, 8]
def q5_7 : List Int := [1, 0, 3, 2, 9, 6, 5, 8, 7, 4]
def q5_8 : List Int := [1, 0, 3, 2, 9, 8, 7, 6, 5, 4]
def q5_9 : List Int := [1, 0, 3, 2, 7, 6, 5, 4, 9, 8]
def q5_10 : List Int := [9, 6, 3, 2, 5, 4, 1, 8, 7, 0]
def q5_11 : List Int := [9, 8, 3, 2, 5, 4, 7, 6, 1, 0]
def q5_12 : List Int := [7, 6, 3, 2, 5, 4, 1, 0, 9, 8]
def q5_13 : List Int := [9, 8, 3, 2, 7, 6, 5, 4, 1, 0]
def q5_14 : List Int := [5, 2, 1, 4, 3, 0, 9, 8, 7, 6]
def q5_15 : List Int := [5, 2, 1, 4, 3, 0, 7, 6, 9, 8]
def q5_16 : List Int := [9, 2, 1, 4, 3, 6, 5, 8, 7, 0]
def q5_17 : List Int := [9, 2, 1, 4, 3, 8, 7, 6, 5, 0]
def q5_18 : List Int := [7, 2, 1, 4, 3, 6, 5, 0, 9, 8]
def q5_19 : List Int := [3, 2, 1, 0, 5, 4, 9, 8, 7, 6]
def q5_20 : List Int := [3, 2, 1, 0, 5, 4, 7, 6, 9, 8]
def q5_21 : List Int := [3, 2, 1, 0, 9, 6, 5, 8, 7, 4]
def q5_22 : List Int := [3, 2, 1, 0, 9, 8, 7, 6, 5, 4]
def q5_23 : List Int := [3, 2, 1, 0, 7, 6, 5, 4, 9, 8]
def q5_24 : List Int := [9, 2, 1, 6, 5, 4, 3, 8, 7, 0]
def q5_25 : List Int := [9, 2, 1, 8, 5, 4, 7, 6, 3, 0]
def q5_26 : List Int := [7, 2, 1, 6, 5, 4, 3, 0, 9, 8]
def q5_27 : List Int := [9, 2, 1, 8, 7, 6, 5, 4, 3, 0]
def q5_28 : List Int := [1, 0, 5, 4, 3, 2, 9, 8, 7, 6]
def q5_29 : List Int := [1, 0, 5, 4, 3, 2, 7, 6, 9, 8]
def q5_30 : List Int := [1, 0, 9, 4, 3, 6, 5, 8, 7, 2]
def q5_31 : List Int := [1, 0, 9, 4, 3, 8, 7, 6, 5, 2]
def q5_32 : List Int := [1, 0, 7, 4, 3, 6, 5, 2, 9, 8]
def q5_33 : List Int := [9, 6, 5, 4, 3, 2, 1, 8, 7, 0]
def q5_34 : List Int := [9, 8, 5, 4, 3, 2, 7, 6, 1, 0]
def q5_35 : List Int := [7, 6, 5, 4, 3, 2, 1, 0, 9, 8]
def q5_36 : List Int := [9, 8, 7, 4, 3, 6, 5, 2, 1, 0]
def q5_37 : List Int := [1, 0, 9, 6, 5, 4, 3, 8, 7, 2]
def q5_38 : List Int := [1, 0, 9, 8, 5, 4, 7, 6, 3, 2]
def q5_39 : List Int := [1, 0, 7, 6, 5, 4, 3, 2, 9, 8]
def q5_40 : List Int := [1, 0, 9, 8, 7, 6, 5, 4, 3, 2]
def q5_41 : List Int := [9, 8, 7, 6, 5, 4, 3, 2, 1, 0]
def pairs5 : List (List Int) := [q5_0, q5_1, q5_2, q5_3, q5_2, q5_1, q5_4, q5_5, q5_6, q5_7, q5_8, q5_7, q5_5, q5_6, q5_5, q5_7, q5_6, q5_9, q5_6, q5_6, q5_9, q5_2, q5_3, q5_2, q5_10, q5_11, q5_10, q5_2, q5_1, q5_4, q5_6, q5_12, q5_4, q5_6, q5_9, q5_3, q5_2, q5_11, q5_10, q5_2, q5_11, q5_13, q5_14, q5_15, q5_16, q5_17, q5_16, q5_15, q5_18, q5_19, q5_20, q5_21, q5_22, q5_21, q5_19, q5_20, q5_19, q5_21, q5_20, q5_23, q5_20, q5_20, q5_23, q5_14, q5_15, q5_16, q5_17, q5_16, q5_14, q5_15, q5_14, q5_16, q5_19, q5_20, q5_19, q5_21, q5_19, q5_15, q5_18, q5_15, q5_15, q5_18, q5_20, q5_20, q5_23, q5_20, q5_16, q5_17, q5_16, q5_24, q5_25, q5_24, q5_16, q5_15, q5_18, q5_20, q5_26, q5_18, q5_20, q5_23, q5_16, q5_17, q5_16, q5_16, q5_17, q5_16, q5_16, q5_24, q5_25, q5_24, q5_16, q5_24, q5_15, q5_18, q5_15, q5_18, q5_18, q5_20, q5_26, q5_18, q5_26, q5_15, q5_18, q5_20, q5_23, q5_20, q5_17, q5_16, q5_25, q5_24, q5_16, q5_25, q5_27, q5_17, q5_16, q5_17, q5_16, q5_16, q5_25, q5_24, q5_16, q5_24, q5_17, q5_16, q5_25, q5_27, q5_25, q5_5, q5_6, q5_7, q5_8, q5_7, q5_5, q5_6, q5_5, q5_7, q5_6, q5_9, q5_6, q5_6, q5_9, q5_28, q5_29, q5_30, q5_31, q5_30, q5_28, q5_29, q5_28, q5_30, q5_5, q5_6, q5_5, q5_7, q5_5, q5_29, q5_32, q5_29, q5_29, q5_32, q5_6, q5_6, q5_9, q5_6, q5_2, q5_3, q5_2, q5_10, q5_11, q5_10, q5_2, q5_1, q5_4, q5_6, q5_12, q5_4, q5_6, q5_9, q5_16, q5_17, q5_16, q5_33, q5_34, q5_33, q5_16, q5_10, q5_11, q5_10, q5_2, q5_10, q5_15, q5_18, q5_29, q5_35, q5_18, q5_6, q5_12, q5_4, q5_12, q5_29, q5_32, q5_6, q5_9, q5_6, q5_16, q5_17, q5_16, q5_16, q5_24, q5_25, q5_24, q5_16, q5_24, q5_15, q5_18, q5_18, q5_20, q5_26, q5_18, q5_26, q5_15, q5_18, q5_20, q5_23, q5_20, q5_18, q5_26, q5_3, q5_2, q5_11, q5_10, q5_2, q5_11, q5_13, q5_17, q5_16, q5_34, q5_33, q5_16, q5_11, q5_10, q5_2, q5_10, q5_34, q5_36, q5_11, q5_13, q5_11, q5_17, q5_16, q5_16, q5_25, q5_24, q5_16, q5_24, q5_17, q5_16, q5_25, q5_27, q5_25, q5_16, q5_24, q5_7, q5_8, q5_7, q5_5, q5_6, q5_5, q5_7, q5_6, q5_9, q5_6, q5_6, q5_9, q5_6, q5_9, q5_30, q5_31, q5_30, q5_28, q5_29, q5_28, q5_30, q5_5, q5_6, q5_5, q5_7, q5_5, q5_29, q5_32, q5_29, q5_29, q5_32, q5_6, q5_6, q5_9, q5_6, q5_29, q5_32, q5_6, q5_9, q5_6, q5_30, q5_31, q5_30, q5_30, q5_37, q5_38, q5_37, q5_30, q5_37, q5_29, q5_32, q5_32, q5_6, q5_39, q5_32, q5_39, q5_29, q5_32, q5_6, q5_9, q5_6, q5_32, q5_39, q5_8, q5_7, q5_6, q5_5, q5_7, q5_6, q5_9, q5_31, q5_30, q5_29, q5_28, q5_30, q5_6, q5_5, q5_7, q5_5, q5_29, q5_32, q5_6, q5_9, q5_6, q5_31, q5_30, q5_30, q5_38, q5_37, q5_30, q5_37, q5_31, q5_30, q5_38, q5_40, q5_38, q5_30, q5_37, q5_29, q5_32, q5_6, q5_9, q5_6, q5_32, q5_39, q5_3, q5_2, q5_11, q5_10, q5_2, q5_11, q5_13, q5_17, q5_16, q5_34, q5_33, q5_16, q5_11, q5_10, q5_2, q5_10, q5_34, q5_36, q5_11, q5_13, q5_11, q5_17, q5_16, q5_16, q5_25, q5_24, q5_16, q5_24, q5_17, q5_16, q5_25, q5_27, q5_25, q5_16, q5_24, q5_34, q5_36, q5_11, q5_13, q5_11, q5_36, q5_41]
end Go.Proofs.Ytdinepghommchaa.V

-- Written by a program of this session over the kit's printer: wip/gp.py.
namespace Go.Proofs.Ytdinepghommchaa.V
open Go.RowKit Go.Proofs.YtdinepghommchaaW.PrintWords Go.Proofs.YtdinepghommchaaW.PrintLast Go.Proofs.YtdinepghommchaaW.PrintMore
attribute [local go_sem] max2_int min2_int max_two min_two max_three min_three max_four min_four   -- for this text's walks alone
set_option linter.unusedVariables false
set_option linter.unusedSimpArgs false

/-! ### slices_Equal_int_int: function 48 -/
def slices_Equal_int_int.l0 : Nat → List Int → List Int → Int → Int → Option (Bool)
 | 0, _, _, _, _ => none
 | k + 1, x0, x1, x12, x13 => if x13 < x12 then (if 0 ≤ x13 then (if x13 < (x0.length : Int) then (if x13 < (x1.length : Int) then (if (rd x0 x13) = (rd x1 x13) then (slices_Equal_int_int.l0 k x0 x1 x12 (wrap64 (x13 + 1))) else (some false)) else (none)) else (none)) else (none)) else (some true)
def slices_Equal_int_int.f (k : Nat) (l0 : List Int) (l1 : List Int) : Option (Bool) := if (l0.length : Int) = (l1.length : Int) then (slices_Equal_int_int.l0 k l0 l1 (l0.length : Int) 0) else (some false)
set_option maxHeartbeats 8000000 in
set_option maxRecDepth 100000 in
theorem slices_Equal_int_int.calls (k : Nat) (A0 : Option Addr) (c0 : Nat) (l0 : List Int) (A1 : Option Addr) (c1 : Nat) (l1 : List Int) (r : Bool) (w : World) (hr0 : Kd.C (Kd.int .i64) w A0 l0.length l0) (hc0 : l0.length ≤ c0) (hr1 : Kd.C (Kd.int .i64) w A1 l1.length l1) (hc1 : l1.length ≤ c1) (h : slices_Equal_int_int.f k l0 l1 = some r) :
 Calls Try.prog 48 #[.slice A0 l0.length c0, .slice A1 l1.length c1] w fun e w' => e = .returned (.bool r) ∧ Drawn0 w w' := by
 have HR0 := Aside0.mk hr0
 have HC0 := Aside0.mk hc0
 clear hr0 hc0
 have HR1 := Aside0.mk hr1
 have HC1 := Aside0.mk hc1
 clear hr1 hc1
 have H : (if (l0.length : Int) = (l1.length : Int) then (slices_Equal_int_int.l0 k l0 l1 (l0.length : Int) 0) else (some false)) = some r := h
 clear h
 by_cases c3 : (l0.length : Int) = (l1.length : Int)
 · rw [if_pos c3] at H
   have c3b0 : ((l0.length : Int) == (l1.length : Int)) = true := beq_iff_eq.mpr c3
   have c3b1 : ((l0.length : Int) != (l1.length : Int)) = false := bne_eq_false_iff_eq.mpr c3
   have c3b2 : (l0.length == l1.length) = true := by first | simpa using c3 | (simp at c3 ⊢; omega)
   clear c3
   have H' := Aside0.mk H
   clear H
   go_enter Try.func48, Try.ntmps48
   go_wp2
   repeat (go_quiet (fail); try go_wp2)
   go_loopg [13] k (fun kq v13 w' => ∃ (x13_1 : Int), v13 = .int .i64 x13_1 ∧ Aside0 (slices_Equal_int_int.l0 kq l0 l1 (l0.length : Int) x13_1 = some r) ∧ Aside0 (kq ≤ k) ∧ Drawn0 w w')
   case atStart => exact ⟨(0), rf_, H', ⟨Nat.le_refl _⟩, dr_⟩
   case round =>
    clear H'
    try clear c1
    try clear p2
    try clear c3
    try clear c3b0
    try clear c3b1
    try clear c3b2
    obtain ⟨x13_1, rfl, HA, HK1, ⟨m1, rfl⟩⟩ := hrel
    cases gk with
    | zero => exact absurd HA.out (by simp [slices_Equal_int_int.l0])
    | succ k1 =>
     have H := HA.out
     clear HA
     simp only [slices_Equal_int_int.l0] at H
     by_cases c4 : x13_1 < (l0.length : Int)
     · rw [if_pos c4] at H
       have c4b0 : decide (x13_1 < (l0.length : Int)) = true := decide_eq_true c4
       clear c4
       by_cases c5 : 0 ≤ x13_1
       · rw [if_pos c5] at H
         have c5b0 : decide (0 ≤ x13_1) = true := decide_eq_true c5
         clear c5
         by_cases c6 : x13_1 < (l0.length : Int)
         · rw [if_pos c6] at H
           have c6b0 : decide (x13_1 < (l0.length : Int)) = true := decide_eq_true c6
           clear c6
           by_cases c7 : x13_1 < (l1.length : Int)
           · rw [if_pos c7] at H
             have c7b0 : decide (x13_1 < (l1.length : Int)) = true := decide_eq_true c7
             clear c7
             by_cases c8 : (rd l0 x13_1) = (rd l1 x13_1)
             · rw [if_pos c8] at H
               have c8b0 : ((rd l0 x13_1) == (rd l1 x13_1)) = true := beq_iff_eq.mpr c8
               have c8b1 : ((rd l0 x13_1) != (rd l1 x13_1)) = false := bne_eq_false_iff_eq.mpr c8
               clear c8
               have H' := Aside0.mk H
               clear H
               obtain ⟨ad703, e703, hx703_0, p703, q703⟩ := ai_ HR0.out x13_1
               cases e703
               obtain ⟨ad704, e704, hx704_0, p704, q704⟩ := ai_ HR1.out x13_1
               cases e704
               go_wp2
               repeat (go_quiet (fail); try go_wp2)
               go_roundg k1
               case measure => have := HK1.out; omega
               case rel => exact ⟨(wrap64 (x13_1 + 1)), rf_, H', ⟨by have := HK1.out; omega⟩, dr_⟩
             · rw [if_neg c8] at H
               have c8b0 : ((rd l0 x13_1) == (rd l1 x13_1)) = false := beq_eq_false_iff_ne.mpr c8
               have c8b1 : ((rd l0 x13_1) != (rd l1 x13_1)) = true := bne_iff_ne.mpr c8
               obtain rfl := Option.some.inj H
               obtain ⟨ad703, e703, hx703_0, p703, q703⟩ := ai_ HR0.out x13_1
               cases e703
               obtain ⟨ad704, e704, hx704_0, p704, q704⟩ := ai_ HR1.out x13_1
               cases e704
               go_wp2
               repeat (go_quiet (fail); try go_wp2)
               go_ret
               exact ⟨rf_, dr_⟩
           · rw [if_neg c7] at H
             exact absurd H (by simp)
         · rw [if_neg c6] at H
           exact absurd H (by simp)
       · rw [if_neg c5] at H
         exact absurd H (by simp)
     · rw [if_neg c4] at H
       have c4b0 : decide (x13_1 < (l0.length : Int)) = false := decide_eq_false c4
       clear c4
       obtain rfl := Option.some.inj H
       go_wp2
       repeat (go_quiet (fail); try go_wp2)
       go_ret
       exact ⟨rf_, dr_⟩
 · rw [if_neg c3] at H
   have c3b0 : ((l0.length : Int) == (l1.length : Int)) = false := beq_eq_false_iff_ne.mpr c3
   have c3b1 : ((l0.length : Int) != (l1.length : Int)) = true := bne_iff_ne.mpr c3
   have c3b2 : (l0.length == l1.length) = false := by first | simpa using c3 | (simp at c3 ⊢; omega)
   obtain rfl := Option.some.inj H
   go_enter Try.func48, Try.ntmps48
   go_wp2
   repeat (go_quiet (fail); try go_wp2)
   go_ret
   exact ⟨rf_, dr_⟩

end Go.Proofs.Ytdinepghommchaa.V

/- The walk of Count's closure: a veil whose pairing is the one that was asked for is counted. -/
namespace Go.Proofs.Ytdinepghommchaa.V
open Go.RowKit Go.Proofs.YtdinepghommchaaW.PrintWords Go.Proofs.YtdinepghommchaaW.PrintLast Go.Proofs.YtdinepghommchaaW.PrintMore
set_option linter.unusedVariables false
set_option linter.unusedSimpArgs false

def veils_Count1.f (l : List Int) (t : List (List Int)) (k : Int) : Option Int :=
 (veils_raised.f t).bind fun h => (veils_heights_pairing.f 1000 h).bind fun p => (slices_Equal_int_int.f 1000 p l).bind fun e => if e = true then some (wrap64 (k + 1)) else some k

/-- The pairing that is asked for lies in old memory, behind a boxed variable; what was counted in another one. -/
structure AccCount (A : Option Addr) (c bp bo base : Nat) (l : List Int) (W : World) (k : Int) : Prop where
 bp : W.heap[bp]? = some (.cells #[.slice A l.length c] 28 (0, 0))
 bo : W.heap[bo]? = some (.cells #[.int .i64 k] 3 (0, 0))
 rd : ∃ w, Kd.C (Kd.int .i64) w A l.length l ∧ w.heap.size ≤ base ∧ Same (fun k => k < base) w W
 le : l.length ≤ c

theorem AccCount.same {A : Option Addr} {c bp bo base lo hi : Nat} {l : List Int} {W W' : World} {k : Int} (h : AccCount A c bp bo base l W k) (h1 : bp < lo) (h2 : bo < lo) (h3 : base ≤ lo) (hs : Same (fun k => ¬ (lo ≤ k ∧ k < hi)) W W') : AccCount A c bp bo base l W' k := by
 obtain ⟨w, hw, hl, hq⟩ := h.rd
 exact ⟨hs.blk h.bp (by omega), hs.blk h.bo (by omega), ⟨w, hw, hl, hq.trans (hs.mono (fun k hk => by omega))⟩, h.le⟩
theorem AccCount.reads {A : Option Addr} {c bp bo base : Nat} {l : List Int} {W : World} {k : Int} (h : AccCount A c bp bo base l W k) : Kd.C (Kd.int .i64) W A l.length l := by
 obtain ⟨w, hw, hl, hq⟩ := h.rd
 exact Kd.C_below hw (hq.below (fun k hk => by omega))

set_option maxHeartbeats 4000000 in
set_option maxRecDepth 100000 in
theorem veils_Count1.calls {lo0 lo hi bp bo base : Nat} (h0 : lo0 ≤ bo) (h1 : bp < lo) (h2 : bo < lo) (h3 : base ≤ lo) (hbb : base ≤ bo) (l : List Int) (AL : Option Addr) (cL : Nat) (W : World) (A : Option Addr) (c : Nat) (t : List (List Int)) (k k' : Int) (hw : hi ≤ W.heap.size) (hr : Kd.C (Kd.slice 3 (Kd.int .i64)) W A t.length t) (hc : t.length ≤ c)
 (ha : AccCount AL cL bp bo base l W k) (h : veils_Count1.f l t k = some k') :
 Calls Try.prog 47 #[.slice A t.length c, .pointer (some ⟨bp, 0, none⟩), .pointer (some ⟨bo, 0, none⟩)] W fun e W' => e = .returned (.tuple #[]) ∧ AccCount AL cL bp bo base l W' k' ∧ Same (fun k => k < lo0 ∨ (lo ≤ k ∧ k < hi)) W W' := by
 obtain ⟨hh, e1, h⟩ := Option.bind_eq_some_iff.mp h
 obtain ⟨p, e2, h⟩ := Option.bind_eq_some_iff.mp h
 obtain ⟨e, e3, h⟩ := Option.bind_eq_some_iff.mp h
 have HA := Aside0.mk (show AccCount AL cL bp bo base l W.drew k from ⟨blk_drew ha.bp, blk_drew ha.bo, (by obtain ⟨w, hw, hl, hq⟩ := ha.rd; exact ⟨w, hw, hl, hq.trans (Same.drewN W 1)⟩), ha.le⟩)
 have HS := Aside0.mk (show Below W.heap.size W W.drew from below_drew (Below.refl _ _))
 have hcell : W.drew.cell? ⟨bp, 0, none⟩ = some (.slice AL l.length cL) := (blk_cell HA.out.bp 0).trans rfl
 have hne : bo ≠ bp := fun e => by
  have z1 := ha.bp
  rw [← e, ha.bo] at z1
  injection z1 with z1
  injection z1 with _ z2
  cases z2
 have HNE := Aside0.mk hne
 have HR := Aside0.mk (Kd.C_drew hr)
 have HC := Aside0.mk hc
 have E1 := Aside0.mk e1
 have E2 := Aside0.mk e2
 have E3 := Aside0.mk e3
 have HK := Aside0.mk h
 have HW := Aside0.mk hw
 clear hr hc e1 e2 e3 h ha hw hne
 go_enter Try.func47, Try.ntmps47
 go_wp2
 refine start_ (n := 6) (S := fun w' => w'.cell? ⟨bp, 0, none⟩ = some (.slice AL l.length cL)) (ds := []) #[false, false, false, false, false, false] (by kernel_rfl) rfl rfl (hcell) (fun hHeld => ?_)
 generalize W.drew = w1 at HR HA HS hcell hHeld ⊢
 refine pure_ (i := 0) (N := some 4) (v := ?_) (a' := ?_) #[true, false, false, false, false, false] rfl rfl (by kernel_rfl) (fun _ _ _ h => h) (Or.inl ⟨by rfl, ?_⟩) ?_ ?_
 rotate_left
 · intro w'
   go_simp
   with_reducible rfl
 rotate_left
 · simp only [Act.put, List.setIfInBounds_toArray, List.set_cons_zero, List.set_cons_succ]
   rfl
 refine pure_ (i := 1) (N := some 5) (v := ?_) (a' := ?_) #[true, true, false, false, false, false] rfl rfl (by kernel_rfl) (fun _ _ _ h => h) (Or.inl ⟨by rfl, ?_⟩) ?_ ?_
 rotate_left
 · intro w'
   go_simp
   with_reducible rfl
 rotate_left
 · simp only [Act.put, List.setIfInBounds_toArray, List.set_cons_zero, List.set_cons_succ]
   rfl
 refine take_ (i := 4) (N := some 8) (v := ?_) (a' := ?_) #[true, true, false, false, true, false] rfl rfl (by kernel_rfl) (fun _ _ _ h => h) (Or.inl ⟨by rfl, ?_⟩) hHeld ?_ ?_
 rotate_left
 · intro w' s0
   go_simp
   with_reducible rfl
 rotate_left
 · simp only [Act.put, List.setIfInBounds_toArray, List.set_cons_zero, List.set_cons_succ]
   rfl
 refine one_ (i := 2) (N := some 6) #[true, true, true, false, true, false] rfl rfl (by kernel_rfl) (by decide) (fun K hK => ?_)
 refine goes_ Try.func49 (by kernel_rfl) rfl #[.iface 49 (.slice A t.length c)] (by rfl) rfl rfl (by (try simp only [List.map_toArray, List.map_cons, List.map_nil]); first | done | rfl) ?_
 refine (veils_raised.calls A c t hh w1 HR.out HC.out E1.out).mono ?_
 rintro e w2 ⟨v2, rfl, ho2, hb2⟩
 refine ⟨_, rfl, ?_⟩
 have HA2 := Aside0.mk (show AccCount AL cL bp bo base l w2 k from ⟨blk_below HA.out.bp hb2, blk_below HA.out.bo hb2, (by obtain ⟨w, hw, hl, hq⟩ := HA.out.rd; exact ⟨w, hw, hl, hq.trans (Same.of_below hb2)⟩), HA.out.le⟩)
 have HS2 := Aside0.mk (below_step HS.out hb2)
 have HO2 := Aside0.mk ho2
 have hHeld2 : w2.cell? ⟨bp, 0, none⟩ = some (.slice AL l.length cL) := (blk_cell HA2.out.bp 0).trans rfl
 clear ho2 hb2
 refine hK.out _ _ hHeld2 (fun hHeld => ?_)
 clear hK K
 refine norm_ (a' := ?_) ?_ ?_
 rotate_left
 · show Act.put _ (some 6) _ = _
   simp only [Act.put, List.setIfInBounds_toArray, List.set_cons_zero, List.set_cons_succ]
   rfl
 obtain ⟨A2, c2, e2⟩ := Kd.S_slice HO2.out
 subst e2
 refine one_ (i := 3) (N := some 7) #[true, true, true, true, true, false] rfl rfl (by kernel_rfl) (by decide) (fun K hK => ?_)
 refine goes_ Try.func50 (by kernel_rfl) rfl #[.slice A2 hh.length c2] (by rfl) rfl rfl (by (try simp only [List.map_toArray, List.map_cons, List.map_nil]); first | done | rfl) ?_
 refine (veils_heights_pairing.calls 1000 A2 c2 hh p w2 (Kd.S_reads' HO2.out).2.2 (Kd.S_reads' HO2.out).2.1 E2.out).mono ?_
 rintro e w3 ⟨v3, rfl, ho3, hb3⟩
 refine ⟨_, rfl, ?_⟩
 have HA3 := Aside0.mk (show AccCount AL cL bp bo base l w3 k from ⟨blk_below HA2.out.bp hb3, blk_below HA2.out.bo hb3, (by obtain ⟨w, hw, hl, hq⟩ := HA2.out.rd; exact ⟨w, hw, hl, hq.trans (Same.of_below hb3)⟩), HA2.out.le⟩)
 have HS3 := Aside0.mk (below_step HS2.out hb3)
 have HO3 := Aside0.mk ho3
 have hHeld3 : w3.cell? ⟨bp, 0, none⟩ = some (.slice AL l.length cL) := (blk_cell HA3.out.bp 0).trans rfl
 clear ho3 hb3
 refine hK.out _ _ hHeld3 (fun hHeld => ?_)
 clear hK K
 refine norm_ (a' := ?_) ?_ ?_
 rotate_left
 · show Act.put _ (some 7) _ = _
   simp only [Act.put, List.setIfInBounds_toArray, List.set_cons_zero, List.set_cons_succ]
   rfl
 obtain ⟨A3, c3, e3⟩ := Kd.R_slice HO3.out
 subst e3
 refine one_ (i := 5) (N := some 9) #[true, true, true, true, true, true] rfl rfl (by kernel_rfl) (by decide) (fun K hK => ?_)
 refine goes_ Try.func48 (by kernel_rfl) rfl #[.slice A3 p.length c3, .slice AL l.length cL] (by rfl) rfl rfl (by (try simp only [List.map_toArray, List.map_cons, List.map_nil]); first | done | rfl) ?_
 refine (slices_Equal_int_int.calls 1000 A3 c3 p AL cL l e w3 (Kd.R_reads' HO3.out).2.2 (Kd.R_reads' HO3.out).2.1 HA3.out.reads HA3.out.le E3.out).mono ?_
 rintro e0 w4 ⟨rfl, ⟨nd, rfl⟩⟩
 refine ⟨_, rfl, ?_⟩
 have HA4 := Aside0.mk (show AccCount AL cL bp bo base l (w3.drewN nd) k from ⟨blk_drewN HA3.out.bp nd, blk_drewN HA3.out.bo nd, (by obtain ⟨w, hw, hl, hq⟩ := HA3.out.rd; exact ⟨w, hw, hl, hq.trans (Same.drewN _ nd)⟩), HA3.out.le⟩)
 have HS4 := Aside0.mk (pw_below_drewN HS3.out nd)
 have hHeld4 : (w3.drewN nd).cell? ⟨bp, 0, none⟩ = some (.slice AL l.length cL) := (blk_cell HA4.out.bp 0).trans rfl
 clear HS3 HA3 HO3
 generalize w3.drewN nd = w5 at HA4 HS4 hHeld4 ⊢
 refine hK.out _ _ hHeld4 (fun hHeld => ?_)
 clear hK K
 refine norm_ (a' := ?_) ?_ ?_
 rotate_left
 · show Act.put _ (some 9) _ = _
   simp only [Act.put, List.setIfInBounds_toArray, List.set_cons_zero, List.set_cons_succ]
   rfl
 refine done_ (by kernel_rfl) ?_
 have co := (blk_cell HA4.out.bo 0).trans (rfl : _ = some (Value.int .i64 k))
 have fo := blk_frozen HA4.out.bo 0
 have HSAME := Aside0.mk (show Same (fun k => k < lo0 ∨ (lo ≤ k ∧ k < hi)) W w5 from Same.of_below HS4.out)
 have H := HK.out
 clear HK
 cases e with
 | false =>
   obtain rfl := Option.some.inj H
   go_wp2
   first | go_end0 | ((try simp only [Exit.inBlock, Exit.then]); refine bodyPost_ret (results_none rfl _ _ _) rfl ?_)
   exact ⟨rfl, HA4.out, HSAME.out⟩
 | true =>
   rw [if_pos rfl] at H
   obtain rfl := Option.some.inj H
   clear H
   go_wp2
   first | go_end0 | ((try simp only [Exit.inBlock, Exit.then]); refine bodyPost_ret (results_none rfl _ _ _) rfl ?_)
   exact ⟨rfl, ⟨blk_far HA4.out.bp (fun e => HNE.out e.symm) _, by simpa using blk_set HA4.out.bo 0 _, (by obtain ⟨w, hw, hl, hq⟩ := HA4.out.rd; exact ⟨w, hw, hl, hq.trans (Same.setCell _ _ _ (fun hk => by dsimp only at hk; omega))⟩), HA4.out.le⟩, HSAME.out.trans (Same.setCell _ _ _ (fun hk => by dsimp only at hk; omega))⟩
end Go.Proofs.Ytdinepghommchaa.V

-- Written by a program of this session over the kit's printer: wip/gp.py.
namespace Go.Proofs.Ytdinepghommchaa.V
open Go.RowKit Go.Proofs.YtdinepghommchaaW.PrintWords Go.Proofs.YtdinepghommchaaW.PrintLast Go.Proofs.YtdinepghommchaaW.PrintMore
attribute [local go_sem] max2_int min2_int max_two min_two max_three min_three max_four min_four   -- for this text's walks alone
set_option linter.unusedVariables false
set_option linter.unusedSimpArgs false

/-! ### veils_Count: function 17 -/
def veils_cnt.f (l : List Int) (n : Int) : Option Int := if 1 ≤ n ∧ n ≤ 5 then veils_all.f n.toNat (fun t k => veils_Count1.f l t k) 0 else none
mutual
def veils_Count.j0 : Nat → List Int → Int → Bool → Option (Int × Int)
 | 0, _, _, _ => none
 | k + 1, x1, x4, x22 => if x22 = true then (some (0, 2)) else (veils_Count.l0 k x1 x4 x1 (x1.length : Int) 0)
def veils_Count.l0 : Nat → List Int → Int → List Int → Int → Int → Option (Int × Int)
 | 0, _, _, _, _, _ => none
 | k + 1, x1, x4, x23, x24, x25 => if x25 < x24 then (if 0 ≤ x25 then (if x25 < (x23.length : Int) then (if (rd x23 x25) < 0 then (some (0, 2)) else (if (rd x23 x25) ≥ (x1.length : Int) then (some (0, 2)) else (if (rd x23 x25) = x25 then (some (0, 2)) else (if 0 ≤ (rd x23 x25) then (if (rd x23 x25) < (x1.length : Int) then (if (rd x1 (rd x23 x25)) = x25 then (veils_Count.l0 k x1 x4 x23 x24 (wrap64 (x25 + 1))) else (some (0, 2))) else (none)) else (none))))) else (none)) else (none)) else ((veils_cnt.f x1 x4).bind fun t103 => (some (t103, 0)))
end
def veils_Count.f (k : Nat) (l0 : List Int) : Option (Int × Int) := if ((l0.length : Int) % 2) = 1 then (veils_Count.j0 k l0 (wrap64 ((l0.length : Int) / 2)) true) else (if (wrap64 ((l0.length : Int) / 2)) < 1 then (veils_Count.j0 k l0 (wrap64 ((l0.length : Int) / 2)) true) else (veils_Count.j0 k l0 (wrap64 ((l0.length : Int) / 2)) (decide ((wrap64 ((l0.length : Int) / 2)) > 5))))
set_option maxHeartbeats 8000000 in
set_option maxRecDepth 100000 in
theorem veils_Count.calls (k : Nat) (A0 : Option Addr) (c0 : Nat) (l0 : List Int) (r1 : Int) (r2 : Int) (w : World) (hr0 : Kd.C (Kd.int .i64) w A0 l0.length l0) (hc0 : l0.length ≤ c0) (h : veils_Count.f k l0 = some (r1, r2)) :
 Calls Try.prog 17 #[.slice A0 l0.length c0] w fun e w' => e = .returned (.tuple #[.int .i64 r1, .int .i64 r2]) ∧ Below w.heap.size w w' := by
 have HR0 := Aside0.mk hr0
 have HC0 := Aside0.mk hc0
 clear hr0 hc0
 have HB := Aside0.mk (Below.refl w.heap.size w)
 have H : (if ((l0.length : Int) % 2) = 1 then (veils_Count.j0 k l0 (wrap64 ((l0.length : Int) / 2)) true) else (if (wrap64 ((l0.length : Int) / 2)) < 1 then (veils_Count.j0 k l0 (wrap64 ((l0.length : Int) / 2)) true) else (veils_Count.j0 k l0 (wrap64 ((l0.length : Int) / 2)) (decide ((wrap64 ((l0.length : Int) / 2)) > 5))))) = some (r1, r2) := h
 clear h
 have HC2 := Aside0.mk H
 clear H
 have hmf : ∀ (fn : Fn) (first cap : Array Value) (w : World), (Instr.makeFunc fn first cap).run Try.prog w = .ok (.func fn first cap) w := fun _ _ _ _ => rfl
 have HX : Aside0 ((w.alloc (.cells #[.slice A0 l0.length c0] 28)).heap[w.heap.size]? = some (.cells #[.slice A0 l0.length c0] 28 (0, 0))) := ⟨blk_new _ _⟩
 have hcell : (w.alloc (.cells #[.slice A0 l0.length c0] 28)).cell? ⟨w.heap.size, 0, none⟩ = some (.slice A0 l0.length c0) := by
  rw [World.cell?_alloc_at _ _ _ _ rfl]; rfl
 go_enter Try.func17, Try.ntmps17
 go_upto_region 2 with (fail)
 go_cut [22] (fun v22 wc => ∃ (kq : Nat) (x22_1 : Bool), v22 = .bool x22_1 ∧ Aside0 (veils_Count.j0 kq l0 (wrap64 ((l0.length : Int) / 2)) x22_1 = some (r1, r2)) ∧ Aside0 (kq ≤ k) ∧ Aside0 (Below w.heap.size w wc) ∧ Aside0 (wc.heap[w.heap.size]? = some (.cells #[.slice A0 l0.length c0] 28 (0, 0))))
 case first =>
  have H := HC2.out
  clear HC2
  by_cases c3 : ((l0.length : Int) % 2) = 1
  · rw [if_pos c3] at H
    have c3b0 : (((l0.length : Int) % 2) == 1) = true := beq_iff_eq.mpr c3
    have c3b1 : (((l0.length : Int) % 2) != 1) = false := bne_eq_false_iff_eq.mpr c3
    clear c3
    (first | rw [c3b0] | (simp only [i64_w, i32_w]; rw [c3b0]) | skip)
    have H' := Aside0.mk H
    clear H
    go_wp2
    go_meet
    case rel => exact ⟨_, (true), rf_, H', ⟨by first | omega | exact Nat.le_refl _⟩, ⟨bel_⟩, ⟨by (with_reducible repeat (first | exact HX.out | refine blk_drewN ?_ _ | refine blk_drew ?_ | refine blk_alloc ?_ _))⟩⟩
  · rw [if_neg c3] at H
    have c3b0 : (((l0.length : Int) % 2) == 1) = false := beq_eq_false_iff_ne.mpr c3
    have c3b1 : (((l0.length : Int) % 2) != 1) = true := bne_iff_ne.mpr c3
    (first | rw [c3b0] | (simp only [i64_w, i32_w]; rw [c3b0]) | skip)
    by_cases c4 : (wrap64 ((l0.length : Int) / 2)) < 1
    · rw [if_pos c4] at H
      have c4b0 : decide ((wrap64 ((l0.length : Int) / 2)) < 1) = true := decide_eq_true c4
      clear c4
      have H' := Aside0.mk H
      clear H
      go_wp2
      go_meet
      case rel => exact ⟨_, (true), rf_, H', ⟨by first | omega | exact Nat.le_refl _⟩, ⟨bel_⟩, ⟨by (with_reducible repeat (first | exact HX.out | refine blk_drewN ?_ _ | refine blk_drew ?_ | refine blk_alloc ?_ _))⟩⟩
    · rw [if_neg c4] at H
      have c4b0 : decide ((wrap64 ((l0.length : Int) / 2)) < 1) = false := decide_eq_false c4
      clear c4
      have H' := Aside0.mk H
      clear H
      go_wp2
      go_meet
      case rel => exact ⟨_, (decide ((wrap64 ((l0.length : Int) / 2)) > 5)), rf_, H', ⟨by first | omega | exact Nat.le_refl _⟩, ⟨bel_⟩, ⟨by (with_reducible repeat (first | exact HX.out | refine blk_drewN ?_ _ | refine blk_drew ?_ | refine blk_alloc ?_ _))⟩⟩
 case rest =>
  clear HC2
  try clear c1
  try clear p2
  try clear c3
  try clear c3b0
  try clear c3b1
  try clear c4
  try clear c4b0
  obtain ⟨kq, x22_1, rfl, HA, HJ1, HB, HX⟩ := hcut
  clear hcell
  have hcell := (blk_cell HX.out 0).trans (rfl : _ = some (Value.slice A0 l0.length c0))
  cases kq with
  | zero => exact absurd HA.out (by simp [veils_Count.j0])
  | succ kj1 =>
   have H := HA.out
   clear HA
   simp only [veils_Count.j0] at H
   by_cases c5 : x22_1 = true
   · subst c5
     have H1 : (some (0, 2)) = some (r1, r2) := by rw [if_pos rfl] at H; exact H
     clear H
     have H := H1
     clear H1
     simp only [Option.some.injEq, Prod.mk.injEq] at H
     obtain ⟨rfl, rfl⟩ := H
     go_wp2
     go_ret2
     exact ⟨er_, bel_⟩
   · replace c5 := Bool.eq_false_iff.mpr c5
     subst c5
     have H1 : (veils_Count.l0 kj1 l0 (wrap64 ((l0.length : Int) / 2)) l0 (l0.length : Int) 0) = some (r1, r2) := by rw [if_neg (show ¬ (false = true) by decide)] at H; exact H
     clear H
     have H := H1
     clear H1
     have H' := Aside0.mk H
     clear H
     go_wp2
     go_loopg [25] kj1 (fun kq v25 w' => ∃ (x25_2 : Int), v25 = .int .i64 x25_2 ∧ Aside0 (veils_Count.l0 kq l0 (wrap64 ((l0.length : Int) / 2)) l0 (l0.length : Int) x25_2 = some (r1, r2)) ∧ Aside0 (kq ≤ kj1) ∧ Aside0 (Below w.heap.size w w') ∧ Aside0 (w'.heap[w.heap.size]? = some (.cells #[.slice A0 l0.length c0] 28 (0, 0))))
     case atStart => exact ⟨(0), rf_, H', ⟨Nat.le_refl _⟩, ⟨bel_⟩, ⟨by (with_reducible repeat (first | exact HX.out | refine blk_drewN ?_ _ | refine blk_drew ?_ | refine blk_alloc ?_ _))⟩⟩
     case round =>
      clear H'
      try clear c1
      try clear p2
      try clear c3
      try clear c3b0
      try clear c3b1
      try clear c4
      try clear c4b0
      try clear c5
      try clear p2
      obtain ⟨x25_2, rfl, HA, HK2, HB, HX⟩ := hrel
      clear hcell
      have hcell := (blk_cell HX.out 0).trans (rfl : _ = some (Value.slice A0 l0.length c0))
      cases gk with
      | zero => exact absurd HA.out (by simp [veils_Count.l0])
      | succ k2 =>
       have H := HA.out
       clear HA
       simp only [veils_Count.l0] at H
       by_cases c6 : x25_2 < (l0.length : Int)
       · rw [if_pos c6] at H
         have c6b0 : decide (x25_2 < (l0.length : Int)) = true := decide_eq_true c6
         clear c6
         by_cases c7 : 0 ≤ x25_2
         · rw [if_pos c7] at H
           have c7b0 : decide (0 ≤ x25_2) = true := decide_eq_true c7
           clear c7
           by_cases c8 : x25_2 < (l0.length : Int)
           · rw [if_pos c8] at H
             have c8b0 : decide (x25_2 < (l0.length : Int)) = true := decide_eq_true c8
             clear c8
             by_cases c9 : (rd l0 x25_2) < 0
             · rw [if_pos c9] at H
               have c9b0 : decide ((rd l0 x25_2) < 0) = true := decide_eq_true c9
               clear c9
               simp only [Option.some.injEq, Prod.mk.injEq] at H
               obtain ⟨rfl, rfl⟩ := H
               obtain ⟨ad101, e101, hx101_0, p101, q101⟩ := ai_ HR0.out x25_2
               cases e101
               replace hx101_0 := (HB.out.cell (World.block_lt_of_cell? w _ hx101_0)).trans hx101_0
               go_wp2
               go_ret2
               exact ⟨er_, bel_⟩
             · rw [if_neg c9] at H
               have c9b0 : decide ((rd l0 x25_2) < 0) = false := decide_eq_false c9
               clear c9
               by_cases c10 : (rd l0 x25_2) ≥ (l0.length : Int)
               · rw [if_pos c10] at H
                 have c10b0 : decide ((l0.length : Int) ≤ (rd l0 x25_2)) = true := decide_eq_true c10
                 clear c10
                 simp only [Option.some.injEq, Prod.mk.injEq] at H
                 obtain ⟨rfl, rfl⟩ := H
                 obtain ⟨ad101, e101, hx101_0, p101, q101⟩ := ai_ HR0.out x25_2
                 cases e101
                 replace hx101_0 := (HB.out.cell (World.block_lt_of_cell? w _ hx101_0)).trans hx101_0
                 go_wp2
                 go_ret2
                 exact ⟨er_, bel_⟩
               · rw [if_neg c10] at H
                 have c10b0 : decide ((l0.length : Int) ≤ (rd l0 x25_2)) = false := decide_eq_false c10
                 clear c10
                 by_cases c11 : (rd l0 x25_2) = x25_2
                 · rw [if_pos c11] at H
                   have c11b0 : ((rd l0 x25_2) == x25_2) = true := beq_iff_eq.mpr c11
                   have c11b1 : ((rd l0 x25_2) != x25_2) = false := bne_eq_false_iff_eq.mpr c11
                   clear c11
                   simp only [Option.some.injEq, Prod.mk.injEq] at H
                   obtain ⟨rfl, rfl⟩ := H
                   obtain ⟨ad101, e101, hx101_0, p101, q101⟩ := ai_ HR0.out x25_2
                   cases e101
                   replace hx101_0 := (HB.out.cell (World.block_lt_of_cell? w _ hx101_0)).trans hx101_0
                   go_wp2
                   go_ret2
                   exact ⟨er_, bel_⟩
                 · rw [if_neg c11] at H
                   have c11b0 : ((rd l0 x25_2) == x25_2) = false := beq_eq_false_iff_ne.mpr c11
                   have c11b1 : ((rd l0 x25_2) != x25_2) = true := bne_iff_ne.mpr c11
                   by_cases c12 : 0 ≤ (rd l0 x25_2)
                   · rw [if_pos c12] at H
                     have c12b0 : decide (0 ≤ (rd l0 x25_2)) = true := decide_eq_true c12
                     clear c12
                     by_cases c13 : (rd l0 x25_2) < (l0.length : Int)
                     · rw [if_pos c13] at H
                       have c13b0 : decide ((rd l0 x25_2) < (l0.length : Int)) = true := decide_eq_true c13
                       clear c13
                       by_cases c14 : (rd l0 (rd l0 x25_2)) = x25_2
                       · rw [if_pos c14] at H
                         have c14b0 : ((rd l0 (rd l0 x25_2)) == x25_2) = true := beq_iff_eq.mpr c14
                         have c14b1 : ((rd l0 (rd l0 x25_2)) != x25_2) = false := bne_eq_false_iff_eq.mpr c14
                         clear c14
                         have H' := Aside0.mk H
                         clear H
                         obtain ⟨ad101, e101, hx101_0, p101, q101⟩ := ai_ HR0.out x25_2
                         cases e101
                         replace hx101_0 := (HB.out.cell (World.block_lt_of_cell? w _ hx101_0)).trans hx101_0
                         obtain ⟨ad102, e102, hx102_0, p102, q102⟩ := ai_ HR0.out (rd l0 x25_2)
                         obtain rfl : ad101 = ad102 := (by injection e102)
                         replace hx102_0 := (HB.out.cell (World.block_lt_of_cell? w _ hx102_0)).trans hx102_0
                         go_wp2
                         go_roundg k2
                         case measure => have := HJ1.out; have := HK2.out; omega
                         case rel => exact ⟨(wrap64 (x25_2 + 1)), rf_, H', ⟨by have := HJ1.out; have := HK2.out; omega⟩, ⟨bel_⟩, ⟨by (with_reducible repeat (first | exact HX.out | refine blk_drewN ?_ _ | refine blk_drew ?_ | refine blk_alloc ?_ _))⟩⟩
                       · rw [if_neg c14] at H
                         have c14b0 : ((rd l0 (rd l0 x25_2)) == x25_2) = false := beq_eq_false_iff_ne.mpr c14
                         have c14b1 : ((rd l0 (rd l0 x25_2)) != x25_2) = true := bne_iff_ne.mpr c14
                         simp only [Option.some.injEq, Prod.mk.injEq] at H
                         obtain ⟨rfl, rfl⟩ := H
                         obtain ⟨ad101, e101, hx101_0, p101, q101⟩ := ai_ HR0.out x25_2
                         cases e101
                         replace hx101_0 := (HB.out.cell (World.block_lt_of_cell? w _ hx101_0)).trans hx101_0
                         obtain ⟨ad102, e102, hx102_0, p102, q102⟩ := ai_ HR0.out (rd l0 x25_2)
                         obtain rfl : ad101 = ad102 := (by injection e102)
                         replace hx102_0 := (HB.out.cell (World.block_lt_of_cell? w _ hx102_0)).trans hx102_0
                         go_wp2
                         go_ret2
                         exact ⟨er_, bel_⟩
                     · rw [if_neg c13] at H
                       exact absurd H (by simp)
                   · rw [if_neg c12] at H
                     exact absurd H (by simp)
           · rw [if_neg c8] at H
             exact absurd H (by simp)
         · rw [if_neg c7] at H
           exact absurd H (by simp)
       · rw [if_neg c6] at H
         have c6b0 : decide (x25_2 < (l0.length : Int)) = false := decide_eq_false c6
         clear c6
         replace H := Option.bind_eq_some_iff.mp H
         obtain ⟨t103, A150, H⟩ := H
         replace H : (some (t103, 0)) = some (r1, r2) := H
         have A15 := Aside0.mk A150
         clear A150
         simp only [Option.some.injEq, Prod.mk.injEq] at H
         obtain ⟨rfl, rfl⟩ := H
         have hz := A15.out
         unfold veils_cnt.f at hz
         by_cases cn : 1 ≤ wrap64 ((l0.length : Int) / 2) ∧ wrap64 ((l0.length : Int) / 2) ≤ 5
         rotate_left
         · rw [if_neg cn] at hz
           cases hz
         rw [if_pos cn] at hz
         obtain ⟨m, em⟩ := Int.eq_ofNat_of_zero_le (show 0 ≤ wrap64 ((l0.length : Int) / 2) by omega)
         have hm : wrap64 ((l0.length : Int) / 2) = (m : Int) := em
         rw [hm, Int.toNat_natCast] at hz
         rw [hm] at cn
         have HZ := Aside0.mk hz
         have HRD := Aside0.mk (show ∃ w0, Kd.C (Kd.int .i64) w0 A0 l0.length l0 ∧ w0.heap.size ≤ w.heap.size ∧ Same (fun k => k < w.heap.size) w0 wr from ⟨w, HR0.out, Nat.le_refl _, ⟨HB.out.os, HB.out.tape, HB.out.output, HB.out.size, fun k hk _ => HB.out.block k hk⟩⟩)
         have HM : Aside0 (∀ W1, W1.heap.size = wr.heap.size + 1 → Below wr.heap.size wr W1 → W1.heap[wr.heap.size]? = some (.cells #[.int .i64 0] 3 (0, 0)) → Calls Try.prog 41 #[.int .i64 (wrap64 ((l0.length : Int) / 2)), .func (.func 47) #[] #[.pointer (some ⟨w.heap.size, 0, none⟩), .pointer (some ⟨wr.heap.size, 0, none⟩)]] W1 fun e W' => e = .returned (.tuple #[]) ∧ W'.heap[wr.heap.size]? = some (.cells #[.int .i64 t103] 3 (0, 0)) ∧ Below w.heap.size w W') := ⟨fun W1 hsz hb1 hbo => by
           rw [hm]
           have h1 := HB.out.size
           have l1 := blk_lt HX.out
           have hF : Aside0 (∀ hi, W1.heap.size ≤ hi → Found w.heap.size W1.heap.size hi 47 #[.pointer (some ⟨w.heap.size, 0, none⟩), .pointer (some ⟨wr.heap.size, 0, none⟩)] (fun t k => veils_Count1.f l0 t k) ((fun _ => AccCount A0 c0 w.heap.size wr.heap.size w.heap.size l0) hi)) := ⟨fun hi hh =>
            ⟨fun W A c t a b hw hr hc ha h => veils_Count1.calls (lo0 := w.heap.size) (lo := W1.heap.size) (hi := hi) h1 (by omega) (by omega) (by omega) h1 l0 A0 c0 W A c t a b hw hr hc ha h, fun W W' a ha hs => AccCount.same ha (by omega) (by omega) (by omega) hs⟩⟩
           have hA : AccCount A0 c0 w.heap.size wr.heap.size w.heap.size l0 W1 0 := ⟨blk_below HX.out hb1, hbo, (by obtain ⟨w0, a1, a2, a3⟩ := HRD.out; exact ⟨w0, a1, a2, a3.trans (Same.of_below hb1)⟩), HC0.out⟩
           refine (veils_all.calls (lo0 := w.heap.size) (Acc := fun _ => AccCount A0 c0 w.heap.size wr.heap.size w.heap.size l0) (by omega) (by omega) Try.func47 (by kernel_rfl) rfl 0 t103 W1 hF (by omega) ⟨fun _ _ => hA⟩ ⟨HZ.out⟩).mono ?_
           rintro e W' ⟨rfl, ⟨hi, _, hacc⟩, hs⟩
           exact ⟨rfl, hacc.bo, HB.out.trans ⟨hs.os.trans hb1.os, hs.tape.trans hb1.tape, hs.output.trans hb1.output, Nat.le_trans hb1.size hs.size, fun k hk => (hs.block k hk (by omega)).trans (hb1.block k (by omega))⟩⟩⟩
         clear hz em hm cn hcell
         go_wp2_with (go_at_call 41; refine (HM.out _ (by simp) (by repeat (first | exact Below.refl _ _ | apply below_alloc | apply pw_below_drewN)) (by first | exact blk_new _ _ | exact blk_drewN (blk_new _ _) _)).mono ?_; rintro e w16 ⟨rfl, hbo, hb⟩; have co := (blk_cell hbo 0).trans (rfl : _ = some (Value.int .i64 t103)); clear HB; have HB := Aside0.mk hb; clear hb hbo)
         go_ret2
         exact ⟨er_, bel_⟩

end Go.Proofs.Ytdinepghommchaa.V

-- Written by a program of this session over the kit's printer: wip/gp.py.
namespace Go.Proofs.Ytdinepghommchaa.V
open Go.RowKit Go.Proofs.YtdinepghommchaaW.PrintWords Go.Proofs.YtdinepghommchaaW.PrintLast Go.Proofs.YtdinepghommchaaW.PrintMore
attribute [local go_sem] max2_int min2_int max_two min_two max_three min_three max_four min_four   -- for this text's walks alone
set_option linter.unusedVariables false
set_option linter.unusedSimpArgs false

/-! ### clocheref09_IsPairing: function 26 -/
mutual
def clocheref09_IsPairing.j0 : Nat → List Int → Bool → Option (Bool)
 | 0, _, _ => none
 | k + 1, x0, x17 => if x17 = true then (some false) else (clocheref09_IsPairing.l0 k x0 0)
def clocheref09_IsPairing.l0 : Nat → List Int → Int → Option (Bool)
 | 0, _, _ => none
 | k + 1, x0, x3 => if x3 < (x0.length : Int) then (if 0 ≤ x3 then (if (rd x0 x3) < 0 then (some false) else (if (rd x0 x3) ≥ (x0.length : Int) then (some false) else (if (rd x0 x3) = x3 then (some false) else (if 0 ≤ (rd x0 x3) then (if (rd x0 x3) < (x0.length : Int) then (if (rd x0 (rd x0 x3)) = x3 then (clocheref09_IsPairing.l0 k x0 (wrap64 (x3 + 1))) else (some false)) else (none)) else (none))))) else (none)) else (some true)
end
def clocheref09_IsPairing.f (k : Nat) (l0 : List Int) : Option (Bool) := if (l0.length : Int) < 2 then (clocheref09_IsPairing.j0 k l0 true) else (if (l0.length : Int) > 10 then (clocheref09_IsPairing.j0 k l0 true) else (clocheref09_IsPairing.j0 k l0 (((l0.length : Int) % 2) == 1)))
end Go.Proofs.Ytdinepghommchaa.V

-- Written by a program of this session over the kit's printer: wip/gp.py.
namespace Go.Proofs.Ytdinepghommchaa.V
open Go.RowKit Go.Proofs.YtdinepghommchaaW.PrintWords Go.Proofs.YtdinepghommchaaW.PrintLast Go.Proofs.YtdinepghommchaaW.PrintMore
attribute [local go_sem] max2_int min2_int max_two min_two max_three min_three max_four min_four   -- for this text's walks alone
set_option linter.unusedVariables false
set_option linter.unusedSimpArgs false

/-! ### clochelaw09_crosses: function 27 -/
mutual
def clochelaw09_crosses.l0 : Nat → List Int → Int → Option (Bool)
 | 0, _, _ => none
 | k + 1, x0, x3 => if x3 < (x0.length : Int) then (clochelaw09_crosses.l1 k x0 x3 (wrap64 (x3 + 1))) else (some false)
def clochelaw09_crosses.l1 : Nat → List Int → Int → Int → Option (Bool)
 | 0, _, _, _ => none
 | k + 1, x0, x3, x4 => if 0 ≤ x3 then (if x3 < (x0.length : Int) then (if x4 < (rd x0 x3) then (if 0 ≤ x4 then (if x4 < (x0.length : Int) then (if (rd x0 x4) > (rd x0 x3) then (some true) else (clochelaw09_crosses.l1 k x0 x3 (wrap64 (x4 + 1)))) else (none)) else (none)) else (clochelaw09_crosses.l0 k x0 (wrap64 (x3 + 1)))) else (none)) else (none)
end
def clochelaw09_crosses.f (k : Nat) (l0 : List Int) : Option (Bool) := clochelaw09_crosses.l0 k l0 0
end Go.Proofs.Ytdinepghommchaa.V

/- What Count and the specification's IsPairing answer: for a pairing of up to ten ends, how many of the listed veils have it; there are only so many pairings. -/
namespace Go.Proofs.Ytdinepghommchaa.V
open Go.RowKit Go.Proofs.YtdinepghommchaaW.PrintWords Go.Proofs.YtdinepghommchaaW.PrintLast Go.Proofs.YtdinepghommchaaW.PrintMore
def good (l : List Int) (m : Nat) : Prop := 0 ≤ l.getD m 0 ∧ l.getD m 0 < (l.length : Int) ∧ l.getD m 0 ≠ (m : Int) ∧ l.getD (l.getD m 0).toNat 0 = (m : Int)
/-- A list pairs off its ends. -/
structure Pr (l : List Int) : Prop where
 two : 2 ≤ l.length
 ten : l.length ≤ 10
 even : l.length % 2 = 0
 good : ∀ m, m < l.length → good l m
/-- How many of a list are this one. -/
def many (l : List Int) : List (List Int) → Nat
 | [] => 0
 | p :: ps => if p = l then many l ps + 1 else many l ps
/-- The pairings of the veils of a size. -/
def pairsOf : Nat → List (List Int)
 | 1 => pairs1
 | 2 => pairs2
 | 3 => pairs3
 | 4 => pairs4
 | 5 => pairs5
 | _ => []
end Go.Proofs.Ytdinepghommchaa.V

-- Written by a program of this session over the kit's printer: wip/gp.py.
namespace Go.Proofs.Ytdinepghommchaa.V
open Go.RowKit Go.Proofs.YtdinepghommchaaW.PrintWords Go.Proofs.YtdinepghommchaaW.PrintLast Go.Proofs.YtdinepghommchaaW.PrintMore
attribute [local go_sem] max2_int min2_int max_two min_two max_three min_three max_four min_four   -- for this text's walks alone
set_option linter.unusedVariables false
set_option linter.unusedSimpArgs false

/-! ### clochelaw09_few: function 21 -/
mutual
def clochelaw09_few.l0 : Nat → List (List (List Int)) → Int → Option (Bool)
 | 0, _, _ => none
 | k + 1, x0, x3 => if x3 < (x0.length : Int) then (if 0 ≤ x3 then (if ((rd_L2 x0 x3).length : Int) > 20 then (some false) else (clochelaw09_few.l1 k x0 x3 0)) else (none)) else (some true)
def clochelaw09_few.l1 : Nat → List (List (List Int)) → Int → Int → Option (Bool)
 | 0, _, _, _ => none
 | k + 1, x0, x3, x4 => if 0 ≤ x3 then (if x3 < (x0.length : Int) then (if x4 < ((rd_L2 x0 x3).length : Int) then (if 0 ≤ x4 then (if ((rd_L1 (rd_L2 x0 x3) x4).length : Int) > 20 then (some false) else (clochelaw09_few.l1 k x0 x3 (wrap64 (x4 + 1)))) else (none)) else (clochelaw09_few.l0 k x0 (wrap64 (x3 + 1)))) else (none)) else (none)
end
def clochelaw09_few.f (k : Nat) (l0 : List (List (List Int))) : Option (Bool) := clochelaw09_few.l0 k l0 0
theorem clochelaw09_few.mono_l : ∀ k, (∀ y0 y1, LeO (clochelaw09_few.l0 k y0 y1) (clochelaw09_few.l0 (k + 1) y0 y1)) ∧ (∀ y0 y1 y2, LeO (clochelaw09_few.l1 k y0 y1 y2) (clochelaw09_few.l1 (k + 1) y0 y1 y2))
 | 0 => ⟨fun _ _ r h => by simp [clochelaw09_few.l0] at h, fun _ _ _ r h => by simp [clochelaw09_few.l1] at h⟩
 | k + 1 => by
  obtain ⟨ih0, ih1⟩ := clochelaw09_few.mono_l k
  refine ⟨?_, ?_⟩
  · intro y0 y1
    unfold clochelaw09_few.l0
    repeat' first
    | (with_reducible exact ih0 _ _)
    | (with_reducible exact ih1 _ _ _)
    | (with_reducible exact LeO.refl _)
    | (with_reducible exact LeO.none _)
    | (with_reducible refine LeO.ite ?_ ?_)
    | (with_reducible refine LeO.bind ?_ (fun _ => ?_))
    | exact ih0 _ _
    | exact ih1 _ _ _
    | exact LeO.none _
    | refine LeO.ite ?_ ?_
    | refine LeO.bind ?_ (fun _ => ?_)
  · intro y0 y1 y2
    unfold clochelaw09_few.l1
    repeat' first
    | (with_reducible exact ih0 _ _)
    | (with_reducible exact ih1 _ _ _)
    | (with_reducible exact LeO.refl _)
    | (with_reducible exact LeO.none _)
    | (with_reducible refine LeO.ite ?_ ?_)
    | (with_reducible refine LeO.bind ?_ (fun _ => ?_))
    | exact ih0 _ _
    | exact ih1 _ _ _
    | exact LeO.none _
    | refine LeO.ite ?_ ?_
    | refine LeO.bind ?_ (fun _ => ?_)
theorem clochelaw09_few.mono : ∀ a0 k, LeO (clochelaw09_few.f k a0) (clochelaw09_few.f (k + 1) a0) := by
 intro a0 k
 obtain ⟨ih0, ih1⟩ := clochelaw09_few.mono_l k
 unfold clochelaw09_few.f
 repeat' first
  | (with_reducible exact ih0 _ _)
  | (with_reducible exact ih1 _ _ _)
  | (with_reducible exact LeO.refl _)
  | (with_reducible exact LeO.none _)
  | (with_reducible refine LeO.ite ?_ ?_)
  | (with_reducible refine LeO.bind ?_ (fun _ => ?_))
  | exact ih0 _ _
  | exact ih1 _ _ _
  | exact LeO.none _
  | refine LeO.ite ?_ ?_
  | refine LeO.bind ?_ (fun _ => ?_)
set_option maxHeartbeats 8000000 in
set_option maxRecDepth 100000 in
theorem clochelaw09_few.calls (k : Nat) (A0 : Option Addr) (c0 : Nat) (l0 : List (List (List Int))) (r : Bool) (w : World) (hr0 : Kd.C (Kd.slice 28 (Kd.slice 3 (Kd.int .i64))) w A0 l0.length l0) (hc0 : l0.length ≤ c0) (h : clochelaw09_few.f k l0 = some r) :
 Calls Try.prog 21 #[.slice A0 l0.length c0] w fun e w' => e = .returned (.bool r) ∧ Drawn0 w w' := by
 have HR0 := Aside0.mk hr0
 have HC0 := Aside0.mk hc0
 clear hr0 hc0
 have H : (clochelaw09_few.l0 k l0 0) = some r := h
 clear h
 have H' := Aside0.mk H
 clear H
 go_enter Try.func21, Try.ntmps21
 go_wp2
 go_loopg [3] k (fun kq v3 w' => ∃ (x3_1 : Int), v3 = .int .i64 x3_1 ∧ Aside0 (clochelaw09_few.l0 kq l0 x3_1 = some r) ∧ Aside0 (kq ≤ k) ∧ Drawn0 w w')
 case atStart => exact ⟨(0), rf_, H', ⟨Nat.le_refl _⟩, dr_⟩
 case round =>
  clear H'
  obtain ⟨x3_1, rfl, HA, HK1, ⟨m1, rfl⟩⟩ := hrel
  cases gk with
  | zero => exact absurd HA.out (by simp [clochelaw09_few.l0])
  | succ k1 =>
    have H := HA.out
    clear HA
    simp only [clochelaw09_few.l0] at H
    by_cases c2 : x3_1 < (l0.length : Int)
    · rw [if_pos c2] at H
      have c2b0 : decide (x3_1 < (l0.length : Int)) = true := decide_eq_true c2
      clear c2
      by_cases c3 : 0 ≤ x3_1
      · rw [if_pos c3] at H
        have c3b0 : decide (0 ≤ x3_1) = true := decide_eq_true c3
        clear c3
        by_cases c4 : ((rd_L2 l0 x3_1).length : Int) > 20
        · rw [if_pos c4] at H
          have c4b0 : decide (20 < ((rd_L2 l0 x3_1).length : Int)) = true := decide_eq_true c4
          have c4b1 : decide (20 < (rd_L2 l0 x3_1).length) = true := decide_eq_true (by omega)
          clear c4
          obtain rfl := Option.some.inj H
          have p247 : 0 ≤ (x3_1 : Int) := od_
          have q247 : x3_1 < (l0.length : Int) := od_
          obtain ⟨ad247, A247_0, c247_0, e247, hx247_0, hl247_0, hi247_0⟩ := at_L2 HR0.out x3_1 p247 q247
          cases e247
          have HR247_0 := Aside0.mk hi247_0
          have HC247_0 := Aside0.mk hl247_0
          clear hi247_0 hl247_0
          replace p247 := eq_true p247
          replace q247 := eq_true q247
          go_wp2
          go_ret
          exact ⟨rf_, dr_⟩
        · rw [if_neg c4] at H
          have c4b0 : decide (20 < ((rd_L2 l0 x3_1).length : Int)) = false := decide_eq_false c4
          have c4b1 : decide (20 < (rd_L2 l0 x3_1).length) = false := decide_eq_false (by omega)
          clear c4
          have H' := Aside0.mk H
          clear H
          have p247 : 0 ≤ (x3_1 : Int) := od_
          have q247 : x3_1 < (l0.length : Int) := od_
          obtain ⟨ad247, A247_0, c247_0, e247, hx247_0, hl247_0, hi247_0⟩ := at_L2 HR0.out x3_1 p247 q247
          cases e247
          have HR247_0 := Aside0.mk hi247_0
          have HC247_0 := Aside0.mk hl247_0
          clear hi247_0 hl247_0
          replace p247 := eq_true p247
          replace q247 := eq_true q247
          go_wp2
          go_loopg [4] k1 (fun kq v4 w' => ∃ (x4_2 : Int), v4 = .int .i64 x4_2 ∧ Aside0 (clochelaw09_few.l1 kq l0 x3_1 x4_2 = some r) ∧ Aside0 (kq ≤ k1) ∧ Drawn0 w w')
          case atStart => exact ⟨(0), rf_, H', ⟨Nat.le_refl _⟩, dr_⟩
          case round =>
           clear H'
           try clear c2
           try clear c2b0
           try clear p2
           try clear q2
           try clear hx2
           try clear c3
           try clear c3b0
           try clear c4
           try clear c4b0
           try clear c4b1
           try clear hx247_0
           try clear p247
           try clear q247
           obtain ⟨x4_2, rfl, HA, HK2, ⟨m2, rfl⟩⟩ := hrel
           cases gk with
           | zero => exact absurd HA.out (by simp [clochelaw09_few.l1])
           | succ k2 =>
            have H := HA.out
            clear HA
            simp only [clochelaw09_few.l1] at H
            by_cases c5 : 0 ≤ x3_1
            · rw [if_pos c5] at H
              have c5b0 : decide (0 ≤ x3_1) = true := decide_eq_true c5
              clear c5
              by_cases c6 : x3_1 < (l0.length : Int)
              · rw [if_pos c6] at H
                have c6b0 : decide (x3_1 < (l0.length : Int)) = true := decide_eq_true c6
                clear c6
                by_cases c7 : x4_2 < ((rd_L2 l0 x3_1).length : Int)
                · rw [if_pos c7] at H
                  have c7b0 : decide (x4_2 < ((rd_L2 l0 x3_1).length : Int)) = true := decide_eq_true c7
                  clear c7
                  by_cases c8 : 0 ≤ x4_2
                  · rw [if_pos c8] at H
                    have c8b0 : decide (0 ≤ x4_2) = true := decide_eq_true c8
                    clear c8
                    by_cases c9 : ((rd_L1 (rd_L2 l0 x3_1) x4_2).length : Int) > 20
                    · rw [if_pos c9] at H
                      have c9b0 : decide (20 < ((rd_L1 (rd_L2 l0 x3_1) x4_2).length : Int)) = true := decide_eq_true c9
                      have c9b1 : decide (20 < (rd_L1 (rd_L2 l0 x3_1) x4_2).length) = true := decide_eq_true (by omega)
                      clear c9
                      obtain rfl := Option.some.inj H
                      have p248 : 0 ≤ (x3_1 : Int) := od_
                      have q248 : x3_1 < (l0.length : Int) := od_
                      obtain ⟨ad248, A248_0, c248_0, e248, hx248_0, hl248_0, hi248_0⟩ := at_L2 HR0.out x3_1 p248 q248
                      obtain rfl : ad247 = ad248 := (by injection e248)
                      have HR248_0 := Aside0.mk hi248_0
                      have HC248_0 := Aside0.mk hl248_0
                      clear hi248_0 hl248_0
                      replace p248 := eq_true p248
                      replace q248 := eq_true q248
                      have p249 : 0 ≤ (x3_1 : Int) := od_
                      have q249 : x3_1 < (l0.length : Int) := od_
                      obtain ⟨ad249, A249_0, c249_0, e249, hx249_0, hl249_0, hi249_0⟩ := at_L2 HR0.out x3_1 p249 q249
                      obtain rfl : ad247 = ad249 := (by injection e249)
                      have HR249_0 := Aside0.mk hi249_0
                      have HC249_0 := Aside0.mk hl249_0
                      clear hi249_0 hl249_0
                      replace p249 := eq_true p249
                      replace q249 := eq_true q249
                      have ea_ := Option.some.inj (hx248_0.symm.trans hx249_0)
                      injection ea_ with ea_ en_ ec_
                      subst ea_
                      subst ec_
                      clear en_
                      obtain ⟨ad250, A250_0, c250_0, e250, hx250_0, HC250_0, HR250_0, p250, q250⟩ := al_ HR249_0.out x4_2
                      cases e250
                      go_wp2
                      go_ret
                      exact ⟨rf_, dr_⟩
                    · rw [if_neg c9] at H
                      have c9b0 : decide (20 < ((rd_L1 (rd_L2 l0 x3_1) x4_2).length : Int)) = false := decide_eq_false c9
                      have c9b1 : decide (20 < (rd_L1 (rd_L2 l0 x3_1) x4_2).length) = false := decide_eq_false (by omega)
                      clear c9
                      have H' := Aside0.mk H
                      clear H
                      have p248 : 0 ≤ (x3_1 : Int) := od_
                      have q248 : x3_1 < (l0.length : Int) := od_
                      obtain ⟨ad248, A248_0, c248_0, e248, hx248_0, hl248_0, hi248_0⟩ := at_L2 HR0.out x3_1 p248 q248
                      obtain rfl : ad247 = ad248 := (by injection e248)
                      have HR248_0 := Aside0.mk hi248_0
                      have HC248_0 := Aside0.mk hl248_0
                      clear hi248_0 hl248_0
                      replace p248 := eq_true p248
                      replace q248 := eq_true q248
                      have p249 : 0 ≤ (x3_1 : Int) := od_
                      have q249 : x3_1 < (l0.length : Int) := od_
                      obtain ⟨ad249, A249_0, c249_0, e249, hx249_0, hl249_0, hi249_0⟩ := at_L2 HR0.out x3_1 p249 q249
                      obtain rfl : ad247 = ad249 := (by injection e249)
                      have HR249_0 := Aside0.mk hi249_0
                      have HC249_0 := Aside0.mk hl249_0
                      clear hi249_0 hl249_0
                      replace p249 := eq_true p249
                      replace q249 := eq_true q249
                      have ea_ := Option.some.inj (hx248_0.symm.trans hx249_0)
                      injection ea_ with ea_ en_ ec_
                      subst ea_
                      subst ec_
                      clear en_
                      obtain ⟨ad250, A250_0, c250_0, e250, hx250_0, HC250_0, HR250_0, p250, q250⟩ := al_ HR249_0.out x4_2
                      cases e250
                      go_wp2
                      go_roundg k2
                      case measure => have := HK1.out; have := HK2.out; omega
                      case rel => exact ⟨(wrap64 (x4_2 + 1)), rf_, H', ⟨by have := HK1.out; have := HK2.out; omega⟩, dr_⟩
                  · rw [if_neg c8] at H
                    exact absurd H (by simp)
                · rw [if_neg c7] at H
                  have c7b0 : decide (x4_2 < ((rd_L2 l0 x3_1).length : Int)) = false := decide_eq_false c7
                  clear c7
                  have H' := Aside0.mk H
                  clear H
                  have p248 : 0 ≤ (x3_1 : Int) := od_
                  have q248 : x3_1 < (l0.length : Int) := od_
                  obtain ⟨ad248, A248_0, c248_0, e248, hx248_0, hl248_0, hi248_0⟩ := at_L2 HR0.out x3_1 p248 q248
                  obtain rfl : ad247 = ad248 := (by injection e248)
                  have HR248_0 := Aside0.mk hi248_0
                  have HC248_0 := Aside0.mk hl248_0
                  clear hi248_0 hl248_0
                  replace p248 := eq_true p248
                  replace q248 := eq_true q248
                  go_wp2
                  go_roundg k2
                  case measure => have := HK1.out; have := HK2.out; omega
                  case rel => exact ⟨(wrap64 (x3_1 + 1)), rf_, H', ⟨by have := HK1.out; have := HK2.out; omega⟩, dr_⟩
              · rw [if_neg c6] at H
                exact absurd H (by simp)
            · rw [if_neg c5] at H
              exact absurd H (by simp)
      · rw [if_neg c3] at H
        exact absurd H (by simp)
    · rw [if_neg c2] at H
      have c2b0 : decide (x3_1 < (l0.length : Int)) = false := decide_eq_false c2
      clear c2
      obtain rfl := Option.some.inj H
      go_wp2
      go_ret
      exact ⟨rf_, dr_⟩

end Go.Proofs.Ytdinepghommchaa.V

/- All pairings of up to ten ends, grown end by end; more rounds tell the same; few always answers. -/
namespace Go.Proofs.Ytdinepghommchaa.V
open Go.RowKit Go.Proofs.YtdinepghommchaaW.PrintWords Go.Proofs.YtdinepghommchaaW.PrintLast Go.Proofs.YtdinepghommchaaW.PrintMore
theorem lift_ {β : Type} {f : Nat → Option β} (hm : ∀ k, LeO (f k) (f (k + 1))) {r : β} {a : Nat} (h : f a = some r) : ∀ d, f (a + d) = some r
 | 0 => h
 | d + 1 => hm (a + d) r (lift_ hm h d)
theorem lift {β : Type} {f : Nat → Option β} (hm : ∀ k, LeO (f k) (f (k + 1))) {r : β} {a b : Nat} (h : f a = some r) (hab : a ≤ b) : f b = some r := by
 have := lift_ hm h (b - a)
 rwa [show a + (b - a) = b by omega] at this
/-- The last end of the beginning of a pairing fits those before it. -/
def okP (p : List Int) : Bool :=
 match p.length with
 | 0 => true
 | i + 1 => decide (p.getD i 0 ≠ (i : Int)) && (decide ((i : Int) ≤ p.getD i 0) || decide (p.getD (p.getD i 0).toNat 0 = (i : Int))) && (List.range i).all fun j => decide (p.getD j 0 ≠ p.getD i 0) && (decide (p.getD j 0 ≠ (i : Int)) || decide (p.getD i 0 = (j : Int)))
def prOf (n : Nat) : List (List Int) := grow ((List.range (2 * n)).map fun i : Nat => (i : Int)) okP (2 * n)
theorem Pr.mem {l : List Int} (h : Pr l) : l ∈ prOf (l.length / 2) := by
 obtain ⟨h2, h10, he, hg⟩ := h
 have e2 : 2 * (l.length / 2) = l.length := by omega
 unfold prOf
 rw [e2]
 have h1 : ∀ x ∈ l, x ∈ (List.range l.length).map fun i : Nat => (i : Int) := by
  intro x hx
  obtain ⟨i, hi, rfl⟩ := List.getElem_of_mem hx
  obtain ⟨a, b, _, _⟩ := hg i hi
  rw [List.getD_eq_getElem?_getD, List.getElem?_eq_getElem hi] at a b
  simp only [Option.getD_some] at a b
  rw [List.mem_map]
  exact ⟨l[i].toNat, List.mem_range.mpr (by omega), by omega⟩
 have tk : ∀ m i, i < m → (l.take m).getD i 0 = l.getD i 0 := fun m i hi => by
  rw [List.getD_eq_getElem?_getD, List.getElem?_take_of_lt hi, List.getD_eq_getElem?_getD]
 have := mem_grow (cands := (List.range l.length).map fun i : Nat => (i : Int)) (ok := okP) h1 (fun m hm => by
  unfold okP
  have hlen : (l.take m).length = m := by rw [List.length_take]; omega
  rw [hlen]
  cases m with
  | zero => rfl
  | succ i =>
   obtain ⟨a, b, c, d⟩ := hg i (by omega)
   dsimp only
   rw [tk (i + 1) i (by omega)]
   simp only [Bool.and_eq_true, Bool.or_eq_true, List.all_eq_true, decide_eq_true_eq]
   refine ⟨⟨c, ?_⟩, fun j hj => ?_⟩
   · by_cases cc : (i : Int) ≤ l.getD i 0
     · left; exact cc
     · right; rw [tk (i + 1) _ (by omega)]; exact d
   · have hj' : j < i := List.mem_range.mp hj
     obtain ⟨_, _, _, d'⟩ := hg j (by omega)
     rw [tk (i + 1) j (by omega)]
     refine ⟨fun hh => ?_, ?_⟩
     · rw [hh, d] at d'
       omega
     · by_cases e : l.getD j 0 = (i : Int)
       · right
         rw [e, Int.toNat_natCast] at d'
         exact d'
       · left; exact e) l.length (Nat.le_refl _)
 rwa [List.take_length] at this
def pairingsAll : List (List Int) := prOf 1 ++ prOf 2 ++ prOf 3 ++ prOf 4 ++ prOf 5
end Go.Proofs.Ytdinepghommchaa.V

/- few: when it answers true, the tables are small. -/
namespace Go.Proofs.Ytdinepghommchaa.V
open Go.RowKit Go.Proofs.YtdinepghommchaaW.PrintWords Go.Proofs.YtdinepghommchaaW.PrintLast Go.Proofs.YtdinepghommchaaW.PrintMore
theorem rdL2_cast (L : List (List (List Int))) (i : Nat) : rd_L2 L (i : Int) = L.getD i [] := by unfold rd_L2; rw [Int.toNat_natCast]
def Few (t : List (List Int)) : Prop := t.length ≤ 20 ∧ ∀ x, x < t.length → (t.getD x []).length ≤ 20
theorem few2_l1 (L : List (List (List Int))) (i : Nat) (hi : i < L.length) (hL : L.length ≤ 20) (h20 : (L.getD i []).length ≤ 20) : ∀ d k x, x + d = (L.getD i []).length →
 clochelaw09_few.l1 (k + d + 1) L i x = some false ∨ ((∀ m, x ≤ m → m < (L.getD i []).length → ((L.getD i []).getD m []).length ≤ 20) ∧ clochelaw09_few.l1 (k + d + 1) L i x = clochelaw09_few.l0 k L (i + 1 : Nat))
 | 0, k, x, h => by
  right
  refine ⟨fun m a b => by omega, ?_⟩
  rw [Nat.add_zero, clochelaw09_few.l1, if_pos (by omega), if_pos (by omega), rdL2_cast, if_neg (by omega), wr_succ i (by omega)]
 | d + 1, k, x, h => by
  rw [show k + (d + 1) + 1 = (k + d + 1) + 1 from rfl, clochelaw09_few.l1, if_pos (by omega), if_pos (by omega), rdL2_cast, if_pos (by omega), if_pos (by omega), rdL1_cast]
  by_cases c : (((L.getD i []).getD x []).length : Int) > 20
  · left; rw [if_pos c]
  · rw [if_neg c, wr_succ x (by omega)]
    rcases few2_l1 L i hi hL h20 d k (x + 1) (by omega) with ih | ⟨ih1, ih2⟩
    · left; exact ih
    · right
      refine ⟨fun m a b => ?_, ih2⟩
      by_cases e : m = x
      · subst e; omega
      · exact ih1 m (by omega) b
theorem few2_l0 (L : List (List (List Int))) (hL : L.length ≤ 20) : ∀ d k i, i + d = L.length →
 ∃ b, clochelaw09_few.l0 (k + d * 22 + 1) L i = some b ∧ (b = true → ∀ m, i ≤ m → m < L.length → Few (L.getD m []))
 | 0, k, i, h => by
  refine ⟨true, ?_, fun _ m a b => by omega⟩
  rw [show k + 0 * 22 + 1 = k + 1 by omega, clochelaw09_few.l0, if_neg (by omega)]
 | d + 1, k, i, h => by
  rw [show k + (d + 1) * 22 + 1 = (k + d * 22 + 22) + 1 by omega, clochelaw09_few.l0, if_pos (by omega), if_pos (by omega), rdL2_cast]
  by_cases c : ((L.getD i []).length : Int) > 20
  · rw [if_pos c]; exact ⟨_, rfl, fun h => by cases h⟩
  · rw [if_neg c]
    have h1 := few2_l1 L i (by omega) hL (by omega) (L.getD i []).length (k + d * 22 + 21 - (L.getD i []).length) 0 (by omega)
    rw [show k + d * 22 + 21 - (L.getD i []).length + (L.getD i []).length + 1 = k + d * 22 + 22 by omega, show ((0 : Nat) : Int) = 0 from rfl] at h1
    rcases h1 with h1 | ⟨h0, h1⟩
    · exact ⟨_, h1, fun h => by cases h⟩
    · rw [h1]
      have := few2_l0 L hL d (k + 20 - (L.getD i []).length) (i + 1) (by omega)
      rw [show k + 20 - (L.getD i []).length + d * 22 + 1 = k + d * 22 + 21 - (L.getD i []).length by omega] at this
      obtain ⟨b, e, hb⟩ := this
      refine ⟨b, e, fun ht m a l => ?_⟩
      by_cases em : m = i
      · subst em; exact ⟨by omega, fun x hx => h0 x (by omega) hx⟩
      · exact hb ht m (by omega) l
theorem few_spec2 (L : List (List (List Int))) (hL : L.length ≤ 20) : ∃ b, clochelaw09_few.f 500 L = some b ∧ (b = true → ∀ m, m < L.length → Few (L.getD m [])) := by
 have := few2_l0 L hL L.length (499 - L.length * 22) 0 (by omega)
 rw [show 499 - L.length * 22 + L.length * 22 + 1 = 500 by omega, show ((0 : Nat) : Int) = 0 from rfl] at this
 obtain ⟨b, e, hb⟩ := this
 exact ⟨b, e, fun ht m hm => hb ht m (by omega) hm⟩
end Go.Proofs.Ytdinepghommchaa.V
