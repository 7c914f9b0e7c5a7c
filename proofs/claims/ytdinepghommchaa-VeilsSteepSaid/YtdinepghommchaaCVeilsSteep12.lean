/- The walks, their words and the pure laws under the claim of VeilsSteep, part: Vf8, PureSteep, Op. -/
import Derived.Test.YtdinepghommchaaCVeilsSteep11
import Derived.Test.YtdinepghommchaaCVeilsSteep5
import Derived.Test.YtdinepghommchaaCVeilsSteep1
import Derived.Test.YtdinepghommchaaCVeilsSteep3
import Derived.Test.YtdinepghommchaaCVeilsSteep6
import Derived.Test.YtdinepghommchaaCVeilsSteep9
import Derived.Test.YtdinepghommchaaCVeilsSteep4
import Derived.Test.YtdinepghommchaaCVeilsSteep7
import Derived.Test.YtdinepghommchaaCVeilsSteep8
import Derived.Deep.Matrix
import Derived.OpenShut
import Derived.ChangeSlices
-- Written by a program of this session over the kit's printer: wip/gp.py.
namespace Go.Proofs.Ytdinepghommchaa.V
open Go.RowKit Go.Proofs.YtdinepghommchaaW.PrintWords Go.Proofs.YtdinepghommchaaW.PrintLast Go.Proofs.YtdinepghommchaaW.PrintMore
attribute [local go_sem] max2_int min2_int max_two min_two max_three min_three max_four min_four   -- for this text's walks alone
set_option linter.unusedVariables false
set_option linter.unusedSimpArgs false

/-! ### clochelaw09_VeilsSteep: function 8 -/
mutual
def clochelaw09_VeilsSteep.j1 : Nat → List (List Int) → Option (Bool)
 | 0, _ => none
 | k + 1, x1 => (veils_Of.f k x1).bind fun bt489 => ((clochelaw09_steep.f k x1).bind fun t493 => (if t493 = true then ((veils_Heights.f k bt489.1).bind fun bt495 => (if bt489.2 = 0 then (if bt495.2 = 0 then ((clocheref09_IsVeil.f k bt489.1).bind fun t499 => (if t499 = true then ((clocheref09_Same.f k bt495.1 x1).bind fun t500 => (if t500 = true then ((clochelaw09_alive.f).bind fun t501 => (some t501)) else (some false))) else (some false))) else (some false)) else (some false))) else (if bt489.2 = 2 then (if (bt489.1.length : Int) = 0 then ((clochelaw09_alive.f).bind fun t494 => (some t494)) else (some false)) else (some false))))
def clochelaw09_VeilsSteep.j0 : Nat → List (List Int) → List (List Int) → List (List Int) → Bool → Option (Bool)
 | 0, _, _, _, _ => none
 | k + 1, x0, x1, x5, x39 => if x39 = true then (some false) else ((veils_Of.f k x5).bind fun bt484 => (if bt484.2 = 0 then ((clocheref09_Same.f k bt484.1 x0).bind fun t488 => (if t488 = true then (clochelaw09_VeilsSteep.j1 k x1) else (some false))) else (some false)))
end
def clochelaw09_VeilsSteep.f (k : Nat) (l0 : List (List Int)) (l1 : List (List Int)) : Option (Bool) := (clochelaw09_few.f k (([l0, l1] : List (List (List Int))))).bind fun t476 => (if t476 = true then ((clocheref09_IsVeil.f k l0).bind fun t478 => (if t478 = true then ((veils_Heights.f k l0).bind fun bt479 => (if bt479.2 = 0 then ((clochelaw09_steep.f k bt479.1).bind fun t483 => (if t483 = true then (clochelaw09_VeilsSteep.j0 k l0 l1 bt479.1 ((bt479.1.length : Int) != (wrap64 ((l0.length : Int) + 1)))) else (clochelaw09_VeilsSteep.j0 k l0 l1 bt479.1 true))) else (clochelaw09_VeilsSteep.j0 k l0 l1 bt479.1 true))) else (clochelaw09_VeilsSteep.j1 k l1))) else ((clochelaw09_alive.f).bind fun t477 => (some t477)))
set_option maxHeartbeats 8000000 in
set_option maxRecDepth 100000 in
theorem clochelaw09_VeilsSteep.calls (k : Nat) (P0_ : Nat → Prop) (A0 : Option Addr) (c0 : Nat) (l0 : List (List Int)) (P1_ : Nat → Prop) (A1 : Option Addr) (c1 : Nat) (l1 : List (List Int)) (w : World) (hs0 : Kd.V (Kd.slice 3 (Kd.int .i64)) 28 w w.heap.size (fun k_ => P0_ k_) (.slice A0 l0.length c0) l0) (hs1 : Kd.V (Kd.slice 3 (Kd.int .i64)) 28 w w.heap.size (fun k_ => P1_ k_) (.slice A1 l1.length c1) l1) (h : clochelaw09_VeilsSteep.f k l0 l1 = some true) :
 Calls Try.prog 8 #[.slice A0 l0.length c0, .slice A1 l1.length c1] w fun e w' => e = .returned (.bool true) ∧ Below w.heap.size w w' := by
 have HO0 := Aside0.mk (show Kd.V (Kd.slice 3 (Kd.int .i64)) 28 w w.heap.size (fun k_ => ((P0_ k_ ∨ P1_ k_) ∨ w.heap.size ≤ k_)) (.slice A0 l0.length c0) l0 from Kd.V_mono hs0 (fun k_ hk => .inl (.inl hk)))
 have HO1 := Aside0.mk (show Kd.V (Kd.slice 3 (Kd.int .i64)) 28 w w.heap.size (fun k_ => ((P0_ k_ ∨ P1_ k_) ∨ w.heap.size ≤ k_)) (.slice A1 l1.length c1) l1 from Kd.V_mono hs1 (fun k_ hk => .inl (.inr hk)))
 have HB := Aside0.mk (Below.refl w.heap.size w)
 have H : ((clochelaw09_few.f k (([l0, l1] : List (List (List Int))))).bind fun t476 => (if t476 = true then ((clocheref09_IsVeil.f k l0).bind fun t478 => (if t478 = true then ((veils_Heights.f k l0).bind fun bt479 => (if bt479.2 = 0 then ((clochelaw09_steep.f k bt479.1).bind fun t483 => (if t483 = true then (clochelaw09_VeilsSteep.j0 k l0 l1 bt479.1 ((bt479.1.length : Int) != (wrap64 ((l0.length : Int) + 1)))) else (clochelaw09_VeilsSteep.j0 k l0 l1 bt479.1 true))) else (clochelaw09_VeilsSteep.j0 k l0 l1 bt479.1 true))) else (clochelaw09_VeilsSteep.j1 k l1))) else ((clochelaw09_alive.f).bind fun t477 => (some t477)))) = some true := h
 clear h
 obtain ⟨y473, hy473⟩ : ∃ y_ : List (List (List Int)), y_ = (([l0, l1] : List (List (List Int)))) := ⟨_, rfl⟩
 replace H : ((clochelaw09_few.f k y473).bind fun t476 => (if t476 = true then ((clocheref09_IsVeil.f k l0).bind fun t478 => (if t478 = true then ((veils_Heights.f k l0).bind fun bt479 => (if bt479.2 = 0 then ((clochelaw09_steep.f k bt479.1).bind fun t483 => (if t483 = true then (clochelaw09_VeilsSteep.j0 k l0 l1 bt479.1 ((bt479.1.length : Int) != (wrap64 ((l0.length : Int) + 1)))) else (clochelaw09_VeilsSteep.j0 k l0 l1 bt479.1 true))) else (clochelaw09_VeilsSteep.j0 k l0 l1 bt479.1 true))) else (clochelaw09_VeilsSteep.j1 k l1))) else ((clochelaw09_alive.f).bind fun t477 => (some t477)))) = some true := by first | (rw [hy473]; with_reducible exact H) | (have H2_ := (Option.bind_some _ _).symm.trans H; rw [hy473]; with_reducible exact H2_) | (have H2_ := (Option.bind_some _ _).symm.trans H; with_reducible exact H2_) | with_reducible exact H | (rw [hy473]; exact H) | exact H
 have Ny473 := Aside0.mk hy473
 clear hy473
 replace H := Option.bind_eq_some_iff.mp H
 obtain ⟨t476, A30, H⟩ := H
 replace H : (if t476 = true then ((clocheref09_IsVeil.f k l0).bind fun t478 => (if t478 = true then ((veils_Heights.f k l0).bind fun bt479 => (if bt479.2 = 0 then ((clochelaw09_steep.f k bt479.1).bind fun t483 => (if t483 = true then (clochelaw09_VeilsSteep.j0 k l0 l1 bt479.1 ((bt479.1.length : Int) != (wrap64 ((l0.length : Int) + 1)))) else (clochelaw09_VeilsSteep.j0 k l0 l1 bt479.1 true))) else (clochelaw09_VeilsSteep.j0 k l0 l1 bt479.1 true))) else (clochelaw09_VeilsSteep.j1 k l1))) else ((clochelaw09_alive.f).bind fun t477 => (some t477))) = some true := H
 have A3 := Aside0.mk A30
 clear A30
 by_cases c4 : t476 = true
 · subst c4
   have H1 : ((clocheref09_IsVeil.f k l0).bind fun t478 => (if t478 = true then ((veils_Heights.f k l0).bind fun bt479 => (if bt479.2 = 0 then ((clochelaw09_steep.f k bt479.1).bind fun t483 => (if t483 = true then (clochelaw09_VeilsSteep.j0 k l0 l1 bt479.1 ((bt479.1.length : Int) != (wrap64 ((l0.length : Int) + 1)))) else (clochelaw09_VeilsSteep.j0 k l0 l1 bt479.1 true))) else (clochelaw09_VeilsSteep.j0 k l0 l1 bt479.1 true))) else (clochelaw09_VeilsSteep.j1 k l1))) = some true := by rw [if_pos rfl] at H; exact H
   clear H
   have H := H1
   clear H1
   replace H := Option.bind_eq_some_iff.mp H
   obtain ⟨t478, A50, H⟩ := H
   replace H : (if t478 = true then ((veils_Heights.f k l0).bind fun bt479 => (if bt479.2 = 0 then ((clochelaw09_steep.f k bt479.1).bind fun t483 => (if t483 = true then (clochelaw09_VeilsSteep.j0 k l0 l1 bt479.1 ((bt479.1.length : Int) != (wrap64 ((l0.length : Int) + 1)))) else (clochelaw09_VeilsSteep.j0 k l0 l1 bt479.1 true))) else (clochelaw09_VeilsSteep.j0 k l0 l1 bt479.1 true))) else (clochelaw09_VeilsSteep.j1 k l1)) = some true := H
   have A5 := Aside0.mk A50
   clear A50
   have HC6 := Aside0.mk H
   clear H
   go_enter Try.func8, Try.ntmps8
   go_upto_if 19 with (first | ((with_reducible refine gate_dst (N := 14) rfl ?_); (try (refine gate_guard (by rfl) ?_; dsimp only)); refine Kd.N_lit (Kd.slice 28 (Kd.slice 3 (Kd.int .i64))) _ 27 ?hg (N' := 14) ?hd (xs := ([l0, l1] : List (List (List Int)))) (inner := [.slice A0 l0.length c0, .slice A1 l1.length c1]) (ok := (fun k_ => ((P0_ k_ ∨ P1_ k_) ∨ w.heap.size ≤ k_))) (okp := (fun k_ => ((P0_ k_ ∨ P1_ k_) ∨ w.heap.size ≤ k_))) ?hr ?hp (fun _ hk => hk) ((show ∀ k_, w.heap.size ≤ k_ → (fun k_ => ((P0_ k_ ∨ P1_ k_) ∨ w.heap.size ≤ k_)) k_ from fun k_ hk => (.inr (Nat.le_trans (below_size (bel_)) hk))) _ (Nat.le_refl _)) (Below.refl _ _) (Nat.le_refl _) (by simp) ?_; (case hd => rfl); (case hg => rfl); (case hr => first | (go_simp; done) | (go_simp; rfl)); (case hp => exact (Reps.one (show Kd.FK (Kd.slice 28 (Kd.slice 3 (Kd.int .i64))) _ _ l0 [.slice A0 l0.length c0] from (Kd.FK_slice_mk (Kd.V_reads' (Kd.V_mono (ok' := (fun k_ => ((P0_ k_ ∨ P1_ k_) ∨ w.heap.size ≤ k_))) (HO0.out) (fun k_ hk => hk))).2.1 (Kd.V_F (Kd.V_mono (ok' := (fun k_ => ((P0_ k_ ∨ P1_ k_) ∨ w.heap.size ≤ k_))) (HO0.out) (fun k_ hk => hk))))) (Reps.one (show Kd.FK (Kd.slice 28 (Kd.slice 3 (Kd.int .i64))) _ _ l1 [.slice A1 l1.length c1] from (Kd.FK_slice_mk (Kd.V_reads' (Kd.V_mono (ok' := (fun k_ => ((P0_ k_ ∨ P1_ k_) ∨ w.heap.size ≤ k_))) (HO1.out) (fun k_ hk => hk))).2.1 (Kd.V_F (Kd.V_mono (ok' := (fun k_ => ((P0_ k_ ∨ P1_ k_) ∨ w.heap.size ≤ k_))) (HO1.out) (fun k_ hk => hk))))) (Reps.none _ _)))); intro v474 w7 ho8 hb hg_ hnew_; clear hg_ hnew_; (first | rw [← Ny473.out] at ho8 | (simp only [Int.reduceToNat] at ho8; rw [← Ny473.out] at ho8)); have n0_ := Aside0.mk (Kd.V_elder' (nV_ HO0.out) (Kd.N_base ho8) hb); have n1_ := Aside0.mk (Kd.V_elder' (nV_ HO1.out) (Kd.N_base ho8) hb); have n2_ := Aside0.mk (Kd.N_lower ho8 (below_size (bel_))); have n3_ := Aside0.mk (below_step (bel_) hb); clear HO0; clear HO1; clear HB; have HO0 := n0_; have HO1 := n1_; have HO475 := n2_; have HB := n3_; clear n0_ n1_ n2_ n3_; clear hb ho8; obtain ⟨Ao9, co9, eo9⟩ := Kd.N_slice HO475.out; subst eo9) | ((with_reducible refine gate_callee (f := 21) rfl ?_); refine goesL_ (some 15) rfl rfl Try.func21 (by kernel_rfl) rfl #[.slice Ao9 y473.length co9] rfl ar_ ?_; (with_reducible refine (clochelaw09_few.calls k _ _ y473 true _ ?side1 ?side2 A3.out).mono ?_); (case side1 => repeat (first | exact (Kd.N_reads' HO475.out).2.2 | (with_reducible refine Kd.C_alloc ?_ _) | (with_reducible refine Kd.C_drewN ?_ _) | (with_reducible refine Kd.C_drew ?_))); (case side2 => exact (Kd.N_reads' HO475.out).2.1); rintro e w' ⟨rfl, ⟨nd, rfl⟩⟩; refine ⟨_, rfl, ?_⟩) | ((with_reducible refine gate_callee (f := 19) rfl ?_); refine goesL_ (some 19) rfl rfl Try.func19 (by kernel_rfl) rfl #[.slice A0 l0.length c0] rfl ar_ ?_; (with_reducible refine (clocheref09_IsVeil.calls k _ _ l0 t478 _ ?side1 ?side2 A5.out).mono ?_); (case side1 => repeat (first | exact (Kd.V_reads' HO0.out).2.2 | (with_reducible refine Kd.C_alloc ?_ _) | (with_reducible refine Kd.C_drewN ?_ _) | (with_reducible refine Kd.C_drew ?_))); (case side2 => exact (Kd.V_reads' HO0.out).2.1); rintro e w' ⟨rfl, ⟨nd, rfl⟩⟩; refine ⟨_, rfl, ?_⟩))
   (try simp only [Act.put, List.setIfInBounds_toArray, List.set_cons_zero, List.set_cons_succ])
   go_cut [] (fun wc => ∃ (kq : Nat), Aside0 (clochelaw09_VeilsSteep.j1 kq l1 = some true) ∧ Aside0 (kq ≤ k) ∧ Aside0 (Kd.V (Kd.slice 3 (Kd.int .i64)) 28 wc w.heap.size (fun k_ => ((P0_ k_ ∨ P1_ k_) ∨ w.heap.size ≤ k_)) (.slice A1 l1.length c1) l1) ∧ Aside0 (Below w.heap.size w wc))
   case first =>
    have H := HC6.out
    clear HC6
    by_cases c10 : t478 = true
    · subst c10
      have H1 : ((veils_Heights.f k l0).bind fun bt479 => (if bt479.2 = 0 then ((clochelaw09_steep.f k bt479.1).bind fun t483 => (if t483 = true then (clochelaw09_VeilsSteep.j0 k l0 l1 bt479.1 ((bt479.1.length : Int) != (wrap64 ((l0.length : Int) + 1)))) else (clochelaw09_VeilsSteep.j0 k l0 l1 bt479.1 true))) else (clochelaw09_VeilsSteep.j0 k l0 l1 bt479.1 true))) = some true := by rw [if_pos rfl] at H; exact H
      clear H
      have H := H1
      clear H1
      replace H := Option.bind_eq_some_iff.mp H
      obtain ⟨⟨t479, t480⟩, A110, H⟩ := H
      replace H : (if t480 = 0 then ((clochelaw09_steep.f k t479).bind fun t483 => (if t483 = true then (clochelaw09_VeilsSteep.j0 k l0 l1 t479 ((t479.length : Int) != (wrap64 ((l0.length : Int) + 1)))) else (clochelaw09_VeilsSteep.j0 k l0 l1 t479 true))) else (clochelaw09_VeilsSteep.j0 k l0 l1 t479 true)) = some true := H
      have A11 := Aside0.mk A110
      clear A110
      have HC12 := Aside0.mk H
      clear H
      go_upto_region 5 with (first | ((with_reducible refine gate_callee (f := 28) rfl ?_); refine goesL_ (some 22) rfl rfl Try.func28 (by kernel_rfl) rfl #[.slice A0 l0.length c0] rfl ar_ ?_; (with_reducible refine (veils_Heights.calls k _ _ l0 t479 t480 _ ?side1 ?side2 A11.out).mono ?_); (case side1 => repeat (first | exact (Kd.V_reads' HO0.out).2.2 | (with_reducible refine Kd.C_alloc ?_ _) | (with_reducible refine Kd.C_drewN ?_ _) | (with_reducible refine Kd.C_drew ?_))); (case side2 => exact (Kd.V_reads' HO0.out).2.1); rintro e w13 ⟨v481, rfl, ho0, hb⟩; refine ⟨_, rfl, ?_⟩; have n0_ := Aside0.mk (Kd.V_elder' (nV_ HO0.out) (by first | exact Kd.N_base ho0 | exact Kd.N_base (Kd.S_N ho0)) hb); have n1_ := Aside0.mk (Kd.V_elder' (nV_ HO1.out) (by first | exact Kd.N_base ho0 | exact Kd.N_base (Kd.S_N ho0)) hb); have n2_ := Aside0.mk (Kd.N_elder' (nN_ HO475.out) (by first | exact Kd.N_base ho0 | exact Kd.N_base (Kd.S_N ho0)) hb); have n3_ := Aside0.mk (Kd.N_lower (Kd.N_mono (ok' := fun k_ => ((P0_ k_ ∨ P1_ k_) ∨ w.heap.size ≤ k_) ∧ some k_ ≠ (.slice Ao9 y473.length co9 : Value).ownBlock) (Kd.S_N (Kd.S_bound ho0)) (fun k_ hk_ => ⟨(.inr (Nat.le_trans (below_size (bel_)) hk_.2.1)), (Kd.fresh' (Kd.N_lt (nN_ HO475.out)) k_ hk_.2.1)⟩)) (below_size (bel_))); have n4_ := Aside0.mk (below_step (bel_) hb); clear HO0; clear HO1; clear HO475; clear HB; have HO0 := n0_; have HO1 := n1_; have HO475 := n2_; have HO482 := n3_; have HB := n4_; clear n0_ n1_ n2_ n3_ n4_; (try clear hb); (try clear hb2); (try clear hk); (try clear hi); (try clear ho0)))
      (try simp only [Act.put, List.setIfInBounds_toArray, List.set_cons_zero, List.set_cons_succ])
      go_cut [39] (fun v39 wc => ∃ (kq : Nat) (x39_11 : Bool), v39 = .bool x39_11 ∧ Aside0 (clochelaw09_VeilsSteep.j0 kq l0 l1 t479 x39_11 = some true) ∧ Aside0 (kq ≤ k) ∧ Aside0 (Kd.V (Kd.slice 3 (Kd.int .i64)) 28 wc w.heap.size (fun k_ => ((P0_ k_ ∨ P1_ k_) ∨ w.heap.size ≤ k_) ∧ some k_ ≠ (v481 : Value).ownBlock) (.slice A0 l0.length c0) l0) ∧ Aside0 (Kd.V (Kd.slice 3 (Kd.int .i64)) 28 wc w.heap.size (fun k_ => ((P0_ k_ ∨ P1_ k_) ∨ w.heap.size ≤ k_) ∧ some k_ ≠ (v481 : Value).ownBlock) (.slice A1 l1.length c1) l1) ∧ Aside0 (Kd.N (Kd.slice 3 (Kd.int .i64)) 28 wc w.heap.size (fun k_ => ((P0_ k_ ∨ P1_ k_) ∨ w.heap.size ≤ k_)) v481 t479) ∧ Aside0 (Below w.heap.size w wc))
      case first =>
       have H := HC12.out
       clear HC12
       by_cases c14 : t480 = 0
       · rw [if_pos c14] at H
         have c14b0 : (t480 == 0) = true := beq_iff_eq.mpr c14
         have c14b1 : (t480 != 0) = false := bne_eq_false_iff_eq.mpr c14
         clear c14
         (first | rw [c14b0] | (simp only [i64_w, i32_w]; rw [c14b0]) | skip)
         replace H := Option.bind_eq_some_iff.mp H
         obtain ⟨t483, A150, H⟩ := H
         replace H : (if t483 = true then (clochelaw09_VeilsSteep.j0 k l0 l1 t479 ((t479.length : Int) != (wrap64 ((l0.length : Int) + 1)))) else (clochelaw09_VeilsSteep.j0 k l0 l1 t479 true)) = some true := H
         have A15 := Aside0.mk A150
         clear A150
         by_cases c16 : t483 = true
         · subst c16
           have H1 : (clochelaw09_VeilsSteep.j0 k l0 l1 t479 ((t479.length : Int) != (wrap64 ((l0.length : Int) + 1)))) = some true := by rw [if_pos rfl] at H; exact H
           clear H
           have H := H1
           clear H1
           have H' := Aside0.mk H
           clear H
           obtain ⟨Ao17, co17, eo17⟩ := Kd.N_slice HO482.out
           subst eo17
           go_wp2_with (first | (go_at_call 29; (with_reducible refine (clochelaw09_steep.calls k _ _ t479 true _ ?side1 ?side2 A15.out).mono ?_); (case side1 => repeat (first | exact (Kd.N_reads' HO482.out).2.2 | (with_reducible refine Kd.C_alloc ?_ _) | (with_reducible refine Kd.C_drewN ?_ _) | (with_reducible refine Kd.C_drew ?_))); (case side2 => exact (Kd.N_reads' HO482.out).2.1); rintro e w' ⟨rfl, ⟨nd, rfl⟩⟩))
           go_meet
           case rel => exact ⟨_, (((t479.length : Int) != (wrap64 ((l0.length : Int) + 1)))), rf_, H', ⟨by first | omega | exact Nat.le_refl _⟩, ⟨by (with_reducible repeat (first | apply Kd.V_alloc | apply Kd.V_drewN | apply Kd.V_drew)); exact Kd.V_mono HO0.out (fun _ hk => ⟨hk.1.1, hk.2⟩)⟩, ⟨by (with_reducible repeat (first | apply Kd.V_alloc | apply Kd.V_drewN | apply Kd.V_drew)); exact Kd.V_mono HO1.out (fun _ hk => ⟨hk.1.1, hk.2⟩)⟩, ⟨by (with_reducible repeat (first | apply Kd.N_alloc | apply Kd.N_drewN | apply Kd.N_drew)); exact Kd.N_mono HO482.out (fun _ hk => hk.1)⟩, ⟨bel_⟩⟩
         · replace c16 := Bool.eq_false_iff.mpr c16
           subst c16
           have H1 : (clochelaw09_VeilsSteep.j0 k l0 l1 t479 true) = some true := by rw [if_neg (show ¬ (false = true) by decide)] at H; exact H
           clear H
           have H := H1
           clear H1
           have H' := Aside0.mk H
           clear H
           obtain ⟨Ao18, co18, eo18⟩ := Kd.N_slice HO482.out
           subst eo18
           go_wp2_with (first | (go_at_call 29; (with_reducible refine (clochelaw09_steep.calls k _ _ t479 false _ ?side1 ?side2 A15.out).mono ?_); (case side1 => repeat (first | exact (Kd.N_reads' HO482.out).2.2 | (with_reducible refine Kd.C_alloc ?_ _) | (with_reducible refine Kd.C_drewN ?_ _) | (with_reducible refine Kd.C_drew ?_))); (case side2 => exact (Kd.N_reads' HO482.out).2.1); rintro e w' ⟨rfl, ⟨nd, rfl⟩⟩))
           go_meet
           case rel => exact ⟨_, (true), rf_, H', ⟨by first | omega | exact Nat.le_refl _⟩, ⟨by (with_reducible repeat (first | apply Kd.V_alloc | apply Kd.V_drewN | apply Kd.V_drew)); exact Kd.V_mono HO0.out (fun _ hk => ⟨hk.1.1, hk.2⟩)⟩, ⟨by (with_reducible repeat (first | apply Kd.V_alloc | apply Kd.V_drewN | apply Kd.V_drew)); exact Kd.V_mono HO1.out (fun _ hk => ⟨hk.1.1, hk.2⟩)⟩, ⟨by (with_reducible repeat (first | apply Kd.N_alloc | apply Kd.N_drewN | apply Kd.N_drew)); exact Kd.N_mono HO482.out (fun _ hk => hk.1)⟩, ⟨bel_⟩⟩
       · rw [if_neg c14] at H
         have c14b0 : (t480 == 0) = false := beq_eq_false_iff_ne.mpr c14
         have c14b1 : (t480 != 0) = true := bne_iff_ne.mpr c14
         (first | rw [c14b0] | (simp only [i64_w, i32_w]; rw [c14b0]) | skip)
         have H' := Aside0.mk H
         clear H
         go_wp2
         go_meet
         case rel => exact ⟨_, (true), rf_, H', ⟨by first | omega | exact Nat.le_refl _⟩, ⟨by (with_reducible repeat (first | apply Kd.V_alloc | apply Kd.V_drewN | apply Kd.V_drew)); exact Kd.V_mono HO0.out (fun _ hk => ⟨hk.1.1, hk.2⟩)⟩, ⟨by (with_reducible repeat (first | apply Kd.V_alloc | apply Kd.V_drewN | apply Kd.V_drew)); exact Kd.V_mono HO1.out (fun _ hk => ⟨hk.1.1, hk.2⟩)⟩, ⟨by (with_reducible repeat (first | apply Kd.N_alloc | apply Kd.N_drewN | apply Kd.N_drew)); exact Kd.N_mono HO482.out (fun _ hk => hk.1)⟩, ⟨bel_⟩⟩
      case rest =>
       clear HC12
       try clear c1
       try clear c2
       try clear p2
       try clear c4
       try clear p6
       try clear c8
       try clear c10
       try clear c14
       try clear c14b0
       try clear c14b1
       try clear c16
       obtain ⟨kq, x39_11, rfl, HA, HJ11, HO_0, HO_1, HO_5, HB⟩ := hcut
       cases kq with
       | zero => exact absurd HA.out (by simp [clochelaw09_VeilsSteep.j0])
       | succ kj11 =>
         have H := HA.out
         clear HA
         simp only [clochelaw09_VeilsSteep.j0] at H
         by_cases c19 : x39_11 = true
         · subst c19
           have H1 : (some false) = some true := by rw [if_pos rfl] at H; exact H
           clear H
           have H := H1
           clear H1
           exact absurd (Option.some.inj H) (by decide)
         · replace c19 := Bool.eq_false_iff.mpr c19
           subst c19
           have H1 : ((veils_Of.f kj11 t479).bind fun bt484 => (if bt484.2 = 0 then ((clocheref09_Same.f kj11 bt484.1 l0).bind fun t488 => (if t488 = true then (clochelaw09_VeilsSteep.j1 kj11 l1) else (some false))) else (some false))) = some true := by rw [if_neg (show ¬ (false = true) by decide)] at H; exact H
           clear H
           have H := H1
           clear H1
           replace H := Option.bind_eq_some_iff.mp H
           obtain ⟨⟨t484, t485⟩, A200, H⟩ := H
           replace H : (if t485 = 0 then ((clocheref09_Same.f kj11 t484 l0).bind fun t488 => (if t488 = true then (clochelaw09_VeilsSteep.j1 kj11 l1) else (some false))) else (some false)) = some true := H
           have A20 := Aside0.mk A200
           clear A200
           by_cases c21 : t485 = 0
           · rw [if_pos c21] at H
             have c21b0 : (t485 == 0) = true := beq_iff_eq.mpr c21
             have c21b1 : (t485 != 0) = false := bne_eq_false_iff_eq.mpr c21
             clear c21
             replace H := Option.bind_eq_some_iff.mp H
             obtain ⟨t488, A220, H⟩ := H
             replace H : (if t488 = true then (clochelaw09_VeilsSteep.j1 kj11 l1) else (some false)) = some true := H
             have A22 := Aside0.mk A220
             clear A220
             by_cases c23 : t488 = true
             · subst c23
               have H1 : (clochelaw09_VeilsSteep.j1 kj11 l1) = some true := by rw [if_pos rfl] at H; exact H
               clear H
               have H := H1
               clear H1
               have H' := Aside0.mk H
               clear H
               obtain ⟨Ao24, co24, eo24⟩ := Kd.N_slice HO_5.out
               subst eo24
               go_wp2_with (first | ((with_reducible refine gate_callee (f := 30) rfl ?_); refine goesL_ (some 42) rfl rfl Try.func30 (by kernel_rfl) rfl #[.slice Ao24 t479.length co24] rfl ar_ ?_; (with_reducible refine (veils_Of.calls kj11 _ _ t479 t484 t485 _ ?side1 ?side2 A20.out).mono ?_); (case side1 => repeat (first | exact (Kd.N_reads' HO_5.out).2.2 | (with_reducible refine Kd.C_alloc ?_ _) | (with_reducible refine Kd.C_drewN ?_ _) | (with_reducible refine Kd.C_drew ?_))); (case side2 => exact (Kd.N_reads' HO_5.out).2.1); rintro e w25 ⟨v486, rfl, ho0, hb⟩; refine ⟨_, rfl, ?_⟩; have n0_ := Aside0.mk (Kd.V_elder' (nV_ HO_0.out) (by first | exact Kd.N_base ho0 | exact Kd.N_base (Kd.S_N ho0)) hb); have n1_ := Aside0.mk (Kd.V_elder' (nV_ HO_1.out) (by first | exact Kd.N_base ho0 | exact Kd.N_base (Kd.S_N ho0)) hb); have n2_ := Aside0.mk (Kd.N_elder' (nN_ HO_5.out) (by first | exact Kd.N_base ho0 | exact Kd.N_base (Kd.S_N ho0)) hb); have n3_ := Aside0.mk (Kd.N_lower (Kd.N_mono (ok' := fun k_ => ((P0_ k_ ∨ P1_ k_) ∨ w.heap.size ≤ k_) ∧ some k_ ≠ (.slice Ao24 t479.length co24 : Value).ownBlock) (Kd.S_N (Kd.S_bound ho0)) (fun k_ hk_ => ⟨(.inr (Nat.le_trans (below_size (bel_)) hk_.2.1)), (Kd.fresh' (Kd.N_lt (nN_ HO_5.out)) k_ hk_.2.1)⟩)) (below_size (bel_))); have n4_ := Aside0.mk (below_step (bel_) hb); clear HO_0; clear HO_1; clear HO_5; clear HB; have HO_0 := n0_; have HO_1 := n1_; have HO_5 := n2_; have HO487 := n3_; have HB := n4_; clear n0_ n1_ n2_ n3_ n4_; (try clear hb); (try clear hb2); (try clear hk); (try clear hi); (try clear ho0); obtain ⟨Ao26, co26, eo26⟩ := Kd.N_slice HO487.out; subst eo26) | (go_at_call 14; (with_reducible refine (clocheref09_Same.calls kj11 _ _ t484 _ _ l0 true _ ?side1 ?side2 ?side3 ?side4 A22.out).mono ?_); (case side1 => repeat (first | exact (Kd.N_reads' HO487.out).2.2 | (with_reducible refine Kd.C_alloc ?_ _) | (with_reducible refine Kd.C_drewN ?_ _) | (with_reducible refine Kd.C_drew ?_))); (case side2 => exact (Kd.N_reads' HO487.out).2.1); (case side3 => repeat (first | exact (Kd.V_reads' HO_0.out).2.2 | (with_reducible refine Kd.C_alloc ?_ _) | (with_reducible refine Kd.C_drewN ?_ _) | (with_reducible refine Kd.C_drew ?_))); (case side4 => exact (Kd.V_reads' HO_0.out).2.1); rintro e w' ⟨rfl, ⟨nd, rfl⟩⟩))
               go_meet
               case rel => exact ⟨_, H', ⟨by have := HJ11.out; first | omega | exact Nat.le_refl _⟩, ⟨by (with_reducible repeat (first | apply Kd.V_alloc | apply Kd.V_drewN | apply Kd.V_drew)); exact Kd.V_mono HO_1.out (fun _ hk => hk.1.1)⟩, ⟨bel_⟩⟩
             · replace c23 := Bool.eq_false_iff.mpr c23
               subst c23
               have H1 : (some false) = some true := by rw [if_neg (show ¬ (false = true) by decide)] at H; exact H
               clear H
               have H := H1
               clear H1
               exact absurd (Option.some.inj H) (by decide)
           · rw [if_neg c21] at H
             have c21b0 : (t485 == 0) = false := beq_eq_false_iff_ne.mpr c21
             have c21b1 : (t485 != 0) = true := bne_iff_ne.mpr c21
             exact absurd (Option.some.inj H) (by decide)
    · replace c10 := Bool.eq_false_iff.mpr c10
      subst c10
      have H1 : (clochelaw09_VeilsSteep.j1 k l1) = some true := by rw [if_neg (show ¬ (false = true) by decide)] at H; exact H
      clear H
      have H := H1
      clear H1
      have H' := Aside0.mk H
      clear H
      go_wp2
      go_meet
      case rel => exact ⟨_, H', ⟨by first | omega | exact Nat.le_refl _⟩, ⟨by (with_reducible repeat (first | apply Kd.V_alloc | apply Kd.V_drewN | apply Kd.V_drew)); exact Kd.V_mono HO1.out (fun _ hk => hk.1)⟩, ⟨bel_⟩⟩
   case rest =>
    clear HC6
    try clear c1
    try clear c2
    try clear p2
    try clear c3
    try clear c4
    try clear p6
    try clear c8
    try clear c10
    try clear c14
    try clear c14b0
    try clear c14b1
    try clear c16
    try clear c19
    try clear c21
    try clear c21b0
    try clear c21b1
    try clear c23
    try clear c28
    try clear c30
    try clear p2
    try clear p6
    obtain ⟨kq, HA, HJ5, HO_1, HB⟩ := hcut
    cases kq with
    | zero => exact absurd HA.out (by simp [clochelaw09_VeilsSteep.j1])
    | succ kj5 =>
      have H := HA.out
      clear HA
      simp only [clochelaw09_VeilsSteep.j1] at H
      replace H := Option.bind_eq_some_iff.mp H
      obtain ⟨⟨t489, t490⟩, A320, H⟩ := H
      replace H : ((clochelaw09_steep.f kj5 l1).bind fun t493 => (if t493 = true then ((veils_Heights.f kj5 t489).bind fun bt495 => (if t490 = 0 then (if bt495.2 = 0 then ((clocheref09_IsVeil.f kj5 t489).bind fun t499 => (if t499 = true then ((clocheref09_Same.f kj5 bt495.1 l1).bind fun t500 => (if t500 = true then ((clochelaw09_alive.f).bind fun t501 => (some t501)) else (some false))) else (some false))) else (some false)) else (some false))) else (if t490 = 2 then (if (t489.length : Int) = 0 then ((clochelaw09_alive.f).bind fun t494 => (some t494)) else (some false)) else (some false)))) = some true := H
      have A32 := Aside0.mk A320
      clear A320
      replace H := Option.bind_eq_some_iff.mp H
      obtain ⟨t493, A330, H⟩ := H
      replace H : (if t493 = true then ((veils_Heights.f kj5 t489).bind fun bt495 => (if t490 = 0 then (if bt495.2 = 0 then ((clocheref09_IsVeil.f kj5 t489).bind fun t499 => (if t499 = true then ((clocheref09_Same.f kj5 bt495.1 l1).bind fun t500 => (if t500 = true then ((clochelaw09_alive.f).bind fun t501 => (some t501)) else (some false))) else (some false))) else (some false)) else (some false))) else (if t490 = 2 then (if (t489.length : Int) = 0 then ((clochelaw09_alive.f).bind fun t494 => (some t494)) else (some false)) else (some false))) = some true := H
      have A33 := Aside0.mk A330
      clear A330
      by_cases c34 : t493 = true
      · subst c34
        have H1 : ((veils_Heights.f kj5 t489).bind fun bt495 => (if t490 = 0 then (if bt495.2 = 0 then ((clocheref09_IsVeil.f kj5 t489).bind fun t499 => (if t499 = true then ((clocheref09_Same.f kj5 bt495.1 l1).bind fun t500 => (if t500 = true then ((clochelaw09_alive.f).bind fun t501 => (some t501)) else (some false))) else (some false))) else (some false)) else (some false))) = some true := by rw [if_pos rfl] at H; exact H
        clear H
        have H := H1
        clear H1
        replace H := Option.bind_eq_some_iff.mp H
        obtain ⟨⟨t495, t496⟩, A350, H⟩ := H
        replace H : (if t490 = 0 then (if t496 = 0 then ((clocheref09_IsVeil.f kj5 t489).bind fun t499 => (if t499 = true then ((clocheref09_Same.f kj5 t495 l1).bind fun t500 => (if t500 = true then ((clochelaw09_alive.f).bind fun t501 => (some t501)) else (some false))) else (some false))) else (some false)) else (some false)) = some true := H
        have A35 := Aside0.mk A350
        clear A350
        by_cases c36 : t490 = 0
        · rw [if_pos c36] at H
          have c36b0 : (t490 == 0) = true := beq_iff_eq.mpr c36
          have c36b1 : (t490 != 0) = false := bne_eq_false_iff_eq.mpr c36
          clear c36
          by_cases c37 : t496 = 0
          · rw [if_pos c37] at H
            have c37b0 : (t496 == 0) = true := beq_iff_eq.mpr c37
            have c37b1 : (t496 != 0) = false := bne_eq_false_iff_eq.mpr c37
            clear c37
            replace H := Option.bind_eq_some_iff.mp H
            obtain ⟨t499, A380, H⟩ := H
            replace H : (if t499 = true then ((clocheref09_Same.f kj5 t495 l1).bind fun t500 => (if t500 = true then ((clochelaw09_alive.f).bind fun t501 => (some t501)) else (some false))) else (some false)) = some true := H
            have A38 := Aside0.mk A380
            clear A380
            by_cases c39 : t499 = true
            · subst c39
              have H1 : ((clocheref09_Same.f kj5 t495 l1).bind fun t500 => (if t500 = true then ((clochelaw09_alive.f).bind fun t501 => (some t501)) else (some false))) = some true := by rw [if_pos rfl] at H; exact H
              clear H
              have H := H1
              clear H1
              replace H := Option.bind_eq_some_iff.mp H
              obtain ⟨t500, A400, H⟩ := H
              replace H : (if t500 = true then ((clochelaw09_alive.f).bind fun t501 => (some t501)) else (some false)) = some true := H
              have A40 := Aside0.mk A400
              clear A400
              by_cases c41 : t500 = true
              · subst c41
                have H1 : ((clochelaw09_alive.f).bind fun t501 => (some t501)) = some true := by rw [if_pos rfl] at H; exact H
                clear H
                have H := H1
                clear H1
                replace H := Option.bind_eq_some_iff.mp H
                obtain ⟨t501, A420, H⟩ := H
                replace H : (some t501) = some true := H
                have A42 := Aside0.mk A420
                clear A420
                have HT := Option.some.inj H
                subst HT
                go_wp2_with (first | ((with_reducible refine gate_callee (f := 30) rfl ?_); refine goesL_ (some 55) rfl rfl Try.func30 (by kernel_rfl) rfl #[.slice A1 l1.length c1] rfl ar_ ?_; (with_reducible refine (veils_Of.calls kj5 _ _ l1 t489 t490 _ ?side1 ?side2 A32.out).mono ?_); (case side1 => repeat (first | exact (Kd.V_reads' HO_1.out).2.2 | (with_reducible refine Kd.C_alloc ?_ _) | (with_reducible refine Kd.C_drewN ?_ _) | (with_reducible refine Kd.C_drew ?_))); (case side2 => exact (Kd.V_reads' HO_1.out).2.1); rintro e w43 ⟨v491, rfl, ho0, hb⟩; refine ⟨_, rfl, ?_⟩; have n0_ := Aside0.mk (Kd.V_elder' (nV_ HO_1.out) (by first | exact Kd.N_base ho0 | exact Kd.N_base (Kd.S_N ho0)) hb); have n1_ := Aside0.mk (Kd.N_lower (Kd.N_mono (ok' := fun k_ => ((P0_ k_ ∨ P1_ k_) ∨ w.heap.size ≤ k_)) (Kd.S_N (Kd.S_bound ho0)) (fun k_ hk_ => (.inr (Nat.le_trans (below_size (bel_)) hk_.2.1)))) (below_size (bel_))); have n2_ := Aside0.mk (below_step (bel_) hb); clear HO_1; clear HB; have HO_1 := n0_; have HO492 := n1_; have HB := n2_; clear n0_ n1_ n2_; (try clear hb); (try clear hb2); (try clear hk); (try clear hi); (try clear ho0)) | ((with_reducible refine gate_callee (f := 29) rfl ?_); refine goesL_ (some 59) rfl rfl Try.func29 (by kernel_rfl) rfl #[.slice A1 l1.length c1] rfl ar_ ?_; (with_reducible refine (clochelaw09_steep.calls kj5 _ _ l1 true _ ?side1 ?side2 A33.out).mono ?_); (case side1 => repeat (first | exact (Kd.V_reads' HO_1.out).2.2 | (with_reducible refine Kd.C_alloc ?_ _) | (with_reducible refine Kd.C_drewN ?_ _) | (with_reducible refine Kd.C_drew ?_))); (case side2 => exact (Kd.V_reads' HO_1.out).2.1); rintro e w' ⟨rfl, ⟨nd, rfl⟩⟩; refine ⟨_, rfl, ?_⟩; obtain ⟨Ao44, co44, eo44⟩ := Kd.N_slice HO492.out; subst eo44) | ((with_reducible refine gate_callee (f := 28) rfl ?_); refine goesL_ (some 73) rfl rfl Try.func28 (by kernel_rfl) rfl #[.slice Ao44 t489.length co44] rfl ar_ ?_; (with_reducible refine (veils_Heights.calls kj5 _ _ t489 t495 t496 _ ?side1 ?side2 A35.out).mono ?_); (case side1 => repeat (first | exact (Kd.N_reads' HO492.out).2.2 | (with_reducible refine Kd.C_alloc ?_ _) | (with_reducible refine Kd.C_drewN ?_ _) | (with_reducible refine Kd.C_drew ?_))); (case side2 => exact (Kd.N_reads' HO492.out).2.1); rintro e w45 ⟨v497, rfl, ho0, hb⟩; refine ⟨_, rfl, ?_⟩; have n0_ := Aside0.mk (Kd.V_elder' (nV_ HO_1.out) (by first | exact Kd.N_base ho0 | exact Kd.N_base (Kd.S_N ho0)) hb); have n1_ := Aside0.mk (Kd.N_elder' (nN_ HO492.out) (by first | exact Kd.N_base ho0 | exact Kd.N_base (Kd.S_N ho0)) hb); have n2_ := Aside0.mk (Kd.N_lower (Kd.N_mono (ok' := fun k_ => ((P0_ k_ ∨ P1_ k_) ∨ w.heap.size ≤ k_) ∧ some k_ ≠ (.slice Ao44 t489.length co44 : Value).ownBlock) (Kd.S_N (Kd.S_bound ho0)) (fun k_ hk_ => ⟨(.inr (Nat.le_trans (below_size (bel_)) hk_.2.1)), (Kd.fresh' (Kd.N_lt (nN_ HO492.out)) k_ hk_.2.1)⟩)) (below_size (bel_))); have n3_ := Aside0.mk (below_step (bel_) hb); clear HO_1; clear HO492; clear HB; have HO_1 := n0_; have HO492 := n1_; have HO498 := n2_; have HB := n3_; clear n0_ n1_ n2_ n3_; (try clear hb); (try clear hb2); (try clear hk); (try clear hi); (try clear ho0)) | (go_at_call 19; (with_reducible refine (clocheref09_IsVeil.calls kj5 _ _ t489 true _ ?side1 ?side2 A38.out).mono ?_); (case side1 => repeat (first | exact (Kd.N_reads' HO492.out).2.2 | (with_reducible refine Kd.C_alloc ?_ _) | (with_reducible refine Kd.C_drewN ?_ _) | (with_reducible refine Kd.C_drew ?_))); (case side2 => exact (Kd.N_reads' HO492.out).2.1); rintro e w' ⟨rfl, ⟨nd, rfl⟩⟩; obtain ⟨Ao46, co46, eo46⟩ := Kd.N_slice HO498.out; subst eo46) | (go_at_call 14; (with_reducible refine (clocheref09_Same.calls kj5 _ _ t495 _ _ l1 true _ ?side1 ?side2 ?side3 ?side4 A40.out).mono ?_); (case side1 => repeat (first | exact (Kd.N_reads' HO498.out).2.2 | (with_reducible refine Kd.C_alloc ?_ _) | (with_reducible refine Kd.C_drewN ?_ _) | (with_reducible refine Kd.C_drew ?_))); (case side2 => exact (Kd.N_reads' HO498.out).2.1); (case side3 => repeat (first | exact (Kd.V_reads' HO_1.out).2.2 | (with_reducible refine Kd.C_alloc ?_ _) | (with_reducible refine Kd.C_drewN ?_ _) | (with_reducible refine Kd.C_drew ?_))); (case side4 => exact (Kd.V_reads' HO_1.out).2.1); rintro e w' ⟨rfl, ⟨nd, rfl⟩⟩) | (go_at_call 15; (with_reducible refine (clochelaw09_alive.calls  true _ A42.out).mono ?_); rintro e w47 ⟨rfl, hb⟩; have n0_ := Aside0.mk (Kd.V_below (nV_ HO_1.out) hb); have n1_ := Aside0.mk (Kd.N_below (nN_ HO492.out) hb); have n2_ := Aside0.mk (Kd.N_below (nN_ HO498.out) hb); have n3_ := Aside0.mk (below_step (bel_) hb); clear HO_1; clear HO492; clear HO498; clear HB; have HO_1 := n0_; have HO492 := n1_; have HO498 := n2_; have HB := n3_; clear n0_ n1_ n2_ n3_; (try clear hb); (try clear hb2); (try clear hk); (try clear hi)))
                go_ret
                exact ⟨er_, bel_⟩
              · replace c41 := Bool.eq_false_iff.mpr c41
                subst c41
                have H1 : (some false) = some true := by rw [if_neg (show ¬ (false = true) by decide)] at H; exact H
                clear H
                have H := H1
                clear H1
                exact absurd (Option.some.inj H) (by decide)
            · replace c39 := Bool.eq_false_iff.mpr c39
              subst c39
              have H1 : (some false) = some true := by rw [if_neg (show ¬ (false = true) by decide)] at H; exact H
              clear H
              have H := H1
              clear H1
              exact absurd (Option.some.inj H) (by decide)
          · rw [if_neg c37] at H
            have c37b0 : (t496 == 0) = false := beq_eq_false_iff_ne.mpr c37
            have c37b1 : (t496 != 0) = true := bne_iff_ne.mpr c37
            exact absurd (Option.some.inj H) (by decide)
        · rw [if_neg c36] at H
          have c36b0 : (t490 == 0) = false := beq_eq_false_iff_ne.mpr c36
          have c36b1 : (t490 != 0) = true := bne_iff_ne.mpr c36
          exact absurd (Option.some.inj H) (by decide)
      · replace c34 := Bool.eq_false_iff.mpr c34
        subst c34
        have H1 : (if t490 = 2 then (if (t489.length : Int) = 0 then ((clochelaw09_alive.f).bind fun t494 => (some t494)) else (some false)) else (some false)) = some true := by rw [if_neg (show ¬ (false = true) by decide)] at H; exact H
        clear H
        have H := H1
        clear H1
        by_cases c61 : t490 = 2
        · rw [if_pos c61] at H
          have c61b0 : (t490 == 2) = true := beq_iff_eq.mpr c61
          have c61b1 : (t490 != 2) = false := bne_eq_false_iff_eq.mpr c61
          clear c61
          by_cases c62 : (t489.length : Int) = 0
          · rw [if_pos c62] at H
            have c62b0 : ((t489.length : Int) == 0) = true := beq_iff_eq.mpr c62
            have c62b1 : ((t489.length : Int) != 0) = false := bne_eq_false_iff_eq.mpr c62
            clear c62
            replace H := Option.bind_eq_some_iff.mp H
            obtain ⟨t494, A630, H⟩ := H
            replace H : (some t494) = some true := H
            have A63 := Aside0.mk A630
            clear A630
            have HT := Option.some.inj H
            subst HT
            go_wp2_with (first | ((with_reducible refine gate_callee (f := 30) rfl ?_); refine goesL_ (some 55) rfl rfl Try.func30 (by kernel_rfl) rfl #[.slice A1 l1.length c1] rfl ar_ ?_; (with_reducible refine (veils_Of.calls kj5 _ _ l1 t489 t490 _ ?side1 ?side2 A32.out).mono ?_); (case side1 => repeat (first | exact (Kd.V_reads' HO_1.out).2.2 | (with_reducible refine Kd.C_alloc ?_ _) | (with_reducible refine Kd.C_drewN ?_ _) | (with_reducible refine Kd.C_drew ?_))); (case side2 => exact (Kd.V_reads' HO_1.out).2.1); rintro e w64 ⟨v491, rfl, ho0, hb⟩; refine ⟨_, rfl, ?_⟩; have n0_ := Aside0.mk (Kd.V_elder' (nV_ HO_1.out) (by first | exact Kd.N_base ho0 | exact Kd.N_base (Kd.S_N ho0)) hb); have n1_ := Aside0.mk (Kd.N_lower (Kd.N_mono (ok' := fun k_ => ((P0_ k_ ∨ P1_ k_) ∨ w.heap.size ≤ k_)) (Kd.S_N (Kd.S_bound ho0)) (fun k_ hk_ => (.inr (Nat.le_trans (below_size (bel_)) hk_.2.1)))) (below_size (bel_))); have n2_ := Aside0.mk (below_step (bel_) hb); clear HO_1; clear HB; have HO_1 := n0_; have HO492 := n1_; have HB := n2_; clear n0_ n1_ n2_; (try clear hb); (try clear hb2); (try clear hk); (try clear hi); (try clear ho0)) | ((with_reducible refine gate_callee (f := 29) rfl ?_); refine goesL_ (some 59) rfl rfl Try.func29 (by kernel_rfl) rfl #[.slice A1 l1.length c1] rfl ar_ ?_; (with_reducible refine (clochelaw09_steep.calls kj5 _ _ l1 false _ ?side1 ?side2 A33.out).mono ?_); (case side1 => repeat (first | exact (Kd.V_reads' HO_1.out).2.2 | (with_reducible refine Kd.C_alloc ?_ _) | (with_reducible refine Kd.C_drewN ?_ _) | (with_reducible refine Kd.C_drew ?_))); (case side2 => exact (Kd.V_reads' HO_1.out).2.1); rintro e w' ⟨rfl, ⟨nd, rfl⟩⟩; refine ⟨_, rfl, ?_⟩; obtain ⟨Ao65, co65, eo65⟩ := Kd.N_slice HO492.out; subst eo65) | (go_at_call 15; (with_reducible refine (clochelaw09_alive.calls  true _ A63.out).mono ?_); rintro e w66 ⟨rfl, hb⟩; have n0_ := Aside0.mk (Kd.V_below (nV_ HO_1.out) hb); have n1_ := Aside0.mk (Kd.N_below (nN_ HO492.out) hb); have n2_ := Aside0.mk (below_step (bel_) hb); clear HO_1; clear HO492; clear HB; have HO_1 := n0_; have HO492 := n1_; have HB := n2_; clear n0_ n1_ n2_; (try clear hb); (try clear hb2); (try clear hk); (try clear hi)))
            go_ret
            exact ⟨er_, bel_⟩
          · rw [if_neg c62] at H
            have c62b0 : ((t489.length : Int) == 0) = false := beq_eq_false_iff_ne.mpr c62
            have c62b1 : ((t489.length : Int) != 0) = true := bne_iff_ne.mpr c62
            have c62b2 : ¬ (t489 = []) := fun h_ => c62 (by rw [h_]; rfl)
            exact absurd (Option.some.inj H) (by decide)
        · rw [if_neg c61] at H
          have c61b0 : (t490 == 2) = false := beq_eq_false_iff_ne.mpr c61
          have c61b1 : (t490 != 2) = true := bne_iff_ne.mpr c61
          exact absurd (Option.some.inj H) (by decide)
 · replace c4 := Bool.eq_false_iff.mpr c4
   subst c4
   have H1 : ((clochelaw09_alive.f).bind fun t477 => (some t477)) = some true := by rw [if_neg (show ¬ (false = true) by decide)] at H; exact H
   clear H
   have H := H1
   clear H1
   replace H := Option.bind_eq_some_iff.mp H
   obtain ⟨t477, A700, H⟩ := H
   replace H : (some t477) = some true := H
   have A70 := Aside0.mk A700
   clear A700
   have HT := Option.some.inj H
   subst HT
   go_enter Try.func8, Try.ntmps8
   go_wp2_with (first | ((with_reducible refine gate_dst (N := 14) rfl ?_); (try (refine gate_guard (by rfl) ?_; dsimp only)); refine Kd.N_lit (Kd.slice 28 (Kd.slice 3 (Kd.int .i64))) _ 27 ?hg (N' := 14) ?hd (xs := ([l0, l1] : List (List (List Int)))) (inner := [.slice A0 l0.length c0, .slice A1 l1.length c1]) (ok := (fun k_ => ((P0_ k_ ∨ P1_ k_) ∨ w.heap.size ≤ k_))) (okp := (fun k_ => ((P0_ k_ ∨ P1_ k_) ∨ w.heap.size ≤ k_))) ?hr ?hp (fun _ hk => hk) ((show ∀ k_, w.heap.size ≤ k_ → (fun k_ => ((P0_ k_ ∨ P1_ k_) ∨ w.heap.size ≤ k_)) k_ from fun k_ hk => (.inr (Nat.le_trans (below_size (bel_)) hk))) _ (Nat.le_refl _)) (Below.refl _ _) (Nat.le_refl _) (by simp) ?_; (case hd => rfl); (case hg => rfl); (case hr => first | (go_simp; done) | (go_simp; rfl)); (case hp => exact (Reps.one (show Kd.FK (Kd.slice 28 (Kd.slice 3 (Kd.int .i64))) _ _ l0 [.slice A0 l0.length c0] from (Kd.FK_slice_mk (Kd.V_reads' (Kd.V_mono (ok' := (fun k_ => ((P0_ k_ ∨ P1_ k_) ∨ w.heap.size ≤ k_))) (HO0.out) (fun k_ hk => hk))).2.1 (Kd.V_F (Kd.V_mono (ok' := (fun k_ => ((P0_ k_ ∨ P1_ k_) ∨ w.heap.size ≤ k_))) (HO0.out) (fun k_ hk => hk))))) (Reps.one (show Kd.FK (Kd.slice 28 (Kd.slice 3 (Kd.int .i64))) _ _ l1 [.slice A1 l1.length c1] from (Kd.FK_slice_mk (Kd.V_reads' (Kd.V_mono (ok' := (fun k_ => ((P0_ k_ ∨ P1_ k_) ∨ w.heap.size ≤ k_))) (HO1.out) (fun k_ hk => hk))).2.1 (Kd.V_F (Kd.V_mono (ok' := (fun k_ => ((P0_ k_ ∨ P1_ k_) ∨ w.heap.size ≤ k_))) (HO1.out) (fun k_ hk => hk))))) (Reps.none _ _)))); intro v474 w71 ho72 hb hg_ hnew_; clear hg_ hnew_; (first | rw [← Ny473.out] at ho72 | (simp only [Int.reduceToNat] at ho72; rw [← Ny473.out] at ho72)); have n0_ := Aside0.mk (Kd.V_elder' (nV_ HO0.out) (Kd.N_base ho72) hb); have n1_ := Aside0.mk (Kd.V_elder' (nV_ HO1.out) (Kd.N_base ho72) hb); have n2_ := Aside0.mk (Kd.N_lower ho72 (below_size (bel_))); have n3_ := Aside0.mk (below_step (bel_) hb); clear HO0; clear HO1; clear HB; have HO0 := n0_; have HO1 := n1_; have HO475 := n2_; have HB := n3_; clear n0_ n1_ n2_ n3_; clear hb ho72; obtain ⟨Ao73, co73, eo73⟩ := Kd.N_slice HO475.out; subst eo73) | ((with_reducible refine gate_callee (f := 21) rfl ?_); refine goesL_ (some 15) rfl rfl Try.func21 (by kernel_rfl) rfl #[.slice Ao73 y473.length co73] rfl ar_ ?_; (with_reducible refine (clochelaw09_few.calls k _ _ y473 false _ ?side1 ?side2 A3.out).mono ?_); (case side1 => repeat (first | exact (Kd.N_reads' HO475.out).2.2 | (with_reducible refine Kd.C_alloc ?_ _) | (with_reducible refine Kd.C_drewN ?_ _) | (with_reducible refine Kd.C_drew ?_))); (case side2 => exact (Kd.N_reads' HO475.out).2.1); rintro e w' ⟨rfl, ⟨nd, rfl⟩⟩; refine ⟨_, rfl, ?_⟩) | ((with_reducible refine gate_callee (f := 15) rfl ?_); refine goesL_ (some 17) rfl rfl Try.func15 (by kernel_rfl) rfl #[] rfl ar_ ?_; (with_reducible refine (clochelaw09_alive.calls  true _ A70.out).mono ?_); rintro e w74 ⟨rfl, hb⟩; refine ⟨_, rfl, ?_⟩; have n0_ := Aside0.mk (Kd.V_below (nV_ HO0.out) hb); have n1_ := Aside0.mk (Kd.V_below (nV_ HO1.out) hb); have n2_ := Aside0.mk (Kd.N_below (nN_ HO475.out) hb); have n3_ := Aside0.mk (below_step (bel_) hb); clear HO0; clear HO1; clear HO475; clear HB; have HO0 := n0_; have HO1 := n1_; have HO475 := n2_; have HB := n3_; clear n0_ n1_ n2_ n3_; (try clear hb); (try clear hb2); (try clear hk); (try clear hi)))
   go_ret
   exact ⟨er_, bel_⟩

end Go.Proofs.Ytdinepghommchaa.V

/- What the walk of VeilsSteep computes is true for all inputs. -/
namespace Go.Proofs.Ytdinepghommchaa.V
open Go.RowKit Go.Proofs.YtdinepghommchaaW.PrintWords Go.Proofs.YtdinepghommchaaW.PrintLast Go.Proofs.YtdinepghommchaaW.PrintMore
/-- A table is heights of a veil, or it is not steep and Of refuses it. -/
theorem hgt_spec (l : List (List Int)) (hl : l.length ≤ 500) : (clochelaw09_steep.f 200 l = some false ∧ veils_Of.f 200 l = some ([], 2)) ∨
 (clochelaw09_steep.f 200 l = some true ∧ ∃ v, veils_Of.f 200 l = some (v, 0) ∧ clocheref09_IsVeil.f 100 v = some true ∧ veils_Heights.f 200 v = some (l, 0) ∧ clocheref09_Same.f 200 l l = some true) := by
 by_cases hs : ShapeH l
 · have h := hgtP_all hs
   unfold hgtP at h
   revert h
   generalize veils_Of.f 200 l = G
   intro h
   match G, h with
   | some (v, e), h =>
    simp only [Bool.and_eq_true, decide_eq_true_eq, beq_iff_eq] at h
    obtain ⟨⟨⟨⟨rfl, h1⟩, h2⟩, h3⟩, h4⟩ := h
    exact .inr ⟨h1, v, rfl, h2, h3, h4⟩
 · left
   exact ⟨(steep_spec l hl).resolve_right hs, (of_spec l hl).resolve_right hs⟩
theorem heiP_spec {t : List (List Int)} (h : Veil t.length t) : ∃ x, veils_Heights.f 200 t = some (x, 0) ∧ x.length = t.length + 1 ∧ clochelaw09_steep.f 200 x = some true ∧ veils_Of.f 200 x = some (t, 0) ∧ clocheref09_Same.f 200 t t = some true := by
 have h := of_veil hei_all h
 unfold heiP at h
 revert h
 generalize veils_Heights.f 200 t = G
 intro h
 match G, h with
 | some (x, e), h =>
   simp only [Bool.and_eq_true, decide_eq_true_eq, beq_iff_eq] at h
   obtain ⟨⟨⟨⟨rfl, h2⟩, h3⟩, h4⟩, h5⟩ := h
   exact ⟨x, rfl, h2, h3, h4, h5⟩
theorem stp_j1 (k : Nat) (hk : 500 ≤ k) (l : List (List Int)) (hl : l.length ≤ 500) : clochelaw09_VeilsSteep.j1 (k + 1) l = some true := by
 rw [clochelaw09_VeilsSteep.j1]
 rcases hgt_spec l hl with ⟨h1, h2⟩ | ⟨h1, v, h2, h3, h4, h5⟩
 · rw [lift (fun k => veils_Of.mono l k) h2 (show 200 ≤ k by omega)]
   dsimp only [Option.bind_some]
   rw [lift (fun k => clochelaw09_steep.mono l k) h1 (show 200 ≤ k by omega)]
   dsimp only [Option.bind_some]
   rw [if_neg (by decide), if_pos rfl, if_pos (by simp)]
   rfl
 · rw [lift (fun k => veils_Of.mono l k) h2 (show 200 ≤ k by omega)]
   dsimp only [Option.bind_some]
   rw [lift (fun k => clochelaw09_steep.mono l k) h1 (show 200 ≤ k by omega)]
   dsimp only [Option.bind_some]
   rw [if_pos rfl, lift (fun k => veils_Heights.mono v k) h4 (show 200 ≤ k by omega)]
   dsimp only [Option.bind_some]
   rw [if_pos rfl, if_pos rfl, lift (fun k => clocheref09_IsVeil.mono v k) h3 (show 100 ≤ k by omega)]
   dsimp only [Option.bind_some]
   rw [if_pos rfl, lift (fun k => clocheref09_Same.mono l l k) h5 (show 200 ≤ k by omega)]
   dsimp only [Option.bind_some]
   rw [if_pos rfl]
   rfl
theorem stp_abs1 {n : Int} {x : List (List Int)} {H : Option (List (List Int) × Int)} {S : List (List Int) → Option Bool} {J : List (List Int) → Bool → Option Bool} (h1 : H = some (x, 0)) (h3 : S x = some true) (hn : ((x.length : Int) != n) = false) (hj : J x false = some true) :
 (H.bind fun bt479 => if bt479.2 = 0 then ((S bt479.1).bind fun t483 => if t483 = true then J bt479.1 ((bt479.1.length : Int) != n) else J bt479.1 true) else J bt479.1 true) = some true := by
 subst h1
 simp [h3, hn, hj]
theorem stp_go (k : Nat) (hk : 1000 ≤ k) (t l : List (List Int)) : clochelaw09_VeilsSteep.f (k + 3) t l = some true := by
 unfold clochelaw09_VeilsSteep.f
 obtain ⟨b, hb, hf⟩ := few_spec2 [t, l] (by simp)
 rw [lift (fun k => clochelaw09_few.mono [t, l] k) hb (show 500 ≤ k + 3 by omega)]
 dsimp only [Option.bind_some]
 by_cases cb : b = true
 · have hl : l.length ≤ 500 := by have := (hf cb 1 (by simp)).1; simp at this; omega
   have ht : t.length ≤ 500 := by have := (hf cb 0 (by simp)).1; simp at this; omega
   rw [if_pos cb]
   rcases isVeil_spec t with e | ⟨e, hv⟩
   · rw [lift (fun k => clocheref09_IsVeil.mono t k) e (show 100 ≤ k + 3 by omega)]
     dsimp only [Option.bind_some]
     rw [if_neg (by decide)]
     exact stp_j1 (k + 2) (by omega) l hl
   · rw [lift (fun k => clocheref09_IsVeil.mono t k) e (show 100 ≤ k + 3 by omega)]
     dsimp only [Option.bind_some]
     obtain ⟨x, h1, h2, h3, h4, h5⟩ := heiP_spec hv
     rw [if_pos rfl]
     have e2 : ((x.length : Int) != (wrap64 ((t.length : Int) + 1))) = false := by rw [h2, wr _ (by omega)]; simp
     refine stp_abs1 (lift (fun k => veils_Heights.mono t k) h1 (show 200 ≤ k + 3 by omega)) (lift (fun k => clochelaw09_steep.mono x k) h3 (show 200 ≤ k + 3 by omega)) e2 ?_
     rw [clochelaw09_VeilsSteep.j0, if_neg (by decide), lift (fun k => veils_Of.mono x k) h4 (show 200 ≤ k + 2 by omega)]
     dsimp only [Option.bind_some]
     rw [if_pos rfl, lift (fun k => clocheref09_Same.mono t t k) h5 (show 200 ≤ k + 2 by omega)]
     dsimp only [Option.bind_some]
     rw [if_pos rfl]
     exact stp_j1 (k + 1) (by omega) l hl
 · rw [if_neg cb]
   rfl
theorem stp_true (t l : List (List Int)) : clochelaw09_VeilsSteep.f (1007 + 3) t l = some true := stp_go 1007 (by decide) t l
end Go.Proofs.Ytdinepghommchaa.V

/- An argument that is a table of numbers, or a row of numbers, opened as the words' rows that can be read. -/
namespace Go.Proofs.Ytdinepghommchaa.V
open Go.RowKit Go.Proofs.YtdinepghommchaaW.PrintWords Go.Proofs.YtdinepghommchaaW.PrintLast Go.Proofs.YtdinepghommchaaW.PrintMore
open Go.ChangeShapes Go.WideShapes Go.Deep Go.ChangeShapes
theorem row_reads {W : World} {A : Option Addr} {L C : Nat} {Z : List Int} (h1 : L ≤ C) (h2 : C ≤ maxLen) (h3 : Z.length = C) (h4 : A = none → C = 0)
 (h5 : ∀ a', A = some a' → ∀ c, c < C → W.cell? (a'.add c) = some (.int .i64 (Z.getD c 0))) :
 (Z.take L).length = L ∧ Kd.C (Kd.int .i64) W A L (Z.take L) := by
 have hl : (Z.take L).length = L := by rw [List.length_take]; omega
 have hm : (maxLen : Nat) = 9223372036854775807 := by decide
 refine ⟨hl, hl, by omega, fun hn => ?_⟩
 cases A with
 | none => have := h4 rfl; omega
 | some a' =>
  refine ⟨a', rfl, fun j p hj => ⟨[.int .i64 p], rfl, rfl, fun i u hu => ?_⟩⟩
  cases i with
  | succ i => simp at hu
  | zero =>
   simp at hu
   subst hu
   have hj' : j < L := by have := (List.getElem?_eq_some_iff.mp hj).1; omega
   have e : Z.getD j 0 = p := by
    rw [List.getElem?_take_of_lt hj'] at hj
    rw [List.getD_eq_getElem?_getD, hj]; rfl
   have := h5 a' rfl j (by omega)
   rw [e] at this
   show W.cell? (a'.add (j * 1 + 0)) = _
   rw [Nat.mul_one, Nat.add_zero]; exact this
theorem open_tab {H : Type} {enc : TypeId × Value → H} {w : World} {base : Nat} {held : Bool} {fuel : Nat} {a : Option Addr} {len cap : Nat} {cs : List Value} {x : DataW H × List MemPlace}
 (hcs : cs = [.slice a len cap]) (h : DataW.trod enc Try.prog w base (fun _ => true) held fuel 27 cs = some x) :
 ∃ l : List (List Int), len = l.length ∧ Kd.C (Kd.slice 3 (Kd.int .i64)) w a l.length l ∧ l.length ≤ cap := by
 subst hcs
 rcases open_int_rows Try.underlying27 Try.underlying28 Try.underlying3 (by kernel_rfl) (by kernel_rfl) h with ⟨hcs, _⟩ | ⟨x', l, c, A, L, C, Z, hcs, _, hl, hm, _, hrows⟩
 · simp at hcs
   obtain ⟨rfl, rfl, rfl⟩ := hcs
   exact ⟨[], rfl, Kd.C_nil _ _, Nat.le_refl _⟩
 · simp at hcs
   obtain ⟨rfl, rfl, rfl⟩ := hcs
   have hmx : (maxLen : Nat) = 9223372036854775807 := by decide
   have e : ((List.range len).map fun r => (Z r).take (L r)).length = len := by simp
   refine ⟨(List.range len).map fun r => (Z r).take (L r), e.symm, ?_, by omega⟩
   refine ⟨rfl, by omega, fun hn => ⟨x', rfl, fun j p hj => ?_⟩⟩
   have hj' : j < len := by have := (List.getElem?_eq_some_iff.mp hj).1; omega
   rw [List.getElem?_map, List.getElem?_range hj'] at hj
   simp at hj
   subst hj
   obtain ⟨hcell, h1, h2, h3, _, h4, h5⟩ := hrows j (by omega)
   obtain ⟨e', hC⟩ := row_reads (W := w) (A := A j) h1 h2 h3 h4 (fun a' ha c hc => (h5 a' ha).2 c hc)
   refine ⟨[.slice (A j) (L j) (C j)], rfl, ⟨A j, C j, by rw [e'], by omega, by rw [e']; exact hC⟩, fun i u hu => ?_⟩
   cases i with
   | succ i => simp at hu
   | zero =>
    simp at hu
    subst hu
    show w.cell? (x'.add (j * 1 + 0)) = _
    rw [Nat.mul_one, Nat.add_zero]; exact hcell
end Go.Proofs.Ytdinepghommchaa.V
