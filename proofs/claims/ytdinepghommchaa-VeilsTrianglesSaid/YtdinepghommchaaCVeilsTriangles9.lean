/- The walks, their words and the pure laws under the claim of VeilsTriangles, part: Vf9, PureTriangles, Op. -/
import Derived.Test.YtdinepghommchaaCVeilsTriangles8
import Derived.Test.YtdinepghommchaaCVeilsTriangles1
import Derived.Test.YtdinepghommchaaCVeilsTriangles4
import Derived.Test.YtdinepghommchaaCVeilsTriangles3
import Derived.Test.YtdinepghommchaaCVeilsTriangles7
import Derived.Test.YtdinepghommchaaCVeilsTriangles5
import Derived.Deep.Matrix
import Derived.OpenShut
import Derived.ChangeSlices
-- Written by a program of this session over the kit's printer: wip/gp.py.
namespace Go.Proofs.Ytdinepghommchaa.V
open Go.RowKit Go.Proofs.YtdinepghommchaaW.PrintWords Go.Proofs.YtdinepghommchaaW.PrintLast Go.Proofs.YtdinepghommchaaW.PrintMore
attribute [local go_sem] max2_int min2_int max_two min_two max_three min_three max_four min_four   -- for this text's walks alone
set_option linter.unusedVariables false
set_option linter.unusedSimpArgs false

/-! ### clochelaw09_VeilsTriangles: function 9 -/
mutual
def clochelaw09_VeilsTriangles.j1 : Nat → List (List Int) → Option (Bool)
 | 0, _ => none
 | k + 1, x1 => (veils_From.f k x1).bind fun bt545 => ((clochelaw09_fair.f k x1).bind fun t549 => (if t549 = true then ((veils_Triangle.f k bt545.1).bind fun bt551 => (if bt545.2 = 0 then (if bt551.2 = 0 then ((clocheref09_IsVeil.f k bt545.1).bind fun t555 => (if t555 = true then ((clocheref09_Same.f k bt551.1 x1).bind fun t556 => (if t556 = true then ((clochelaw09_alive.f).bind fun t557 => (some t557)) else (some false))) else (some false))) else (some false)) else (some false))) else (if bt545.2 = 2 then (if (bt545.1.length : Int) = 0 then ((clochelaw09_alive.f).bind fun t550 => (some t550)) else (some false)) else (some false))))
def clochelaw09_VeilsTriangles.j0 : Nat → List (List Int) → List (List Int) → List (List Int) → Bool → Option (Bool)
 | 0, _, _, _, _ => none
 | k + 1, x0, x1, x5, x38 => if x38 = true then (some false) else ((veils_From.f k x5).bind fun bt540 => (if bt540.2 = 0 then ((clocheref09_Same.f k bt540.1 x0).bind fun t544 => (if t544 = true then (clochelaw09_VeilsTriangles.j1 k x1) else (some false))) else (some false)))
end
def clochelaw09_VeilsTriangles.f (k : Nat) (l0 : List (List Int)) (l1 : List (List Int)) : Option (Bool) := (clochelaw09_few.f k (([l0, l1] : List (List (List Int))))).bind fun t532 => (if t532 = true then ((clocheref09_IsVeil.f k l0).bind fun t534 => (if t534 = true then ((veils_Triangle.f k l0).bind fun bt535 => (if bt535.2 = 0 then ((clochelaw09_fair.f k bt535.1).bind fun t539 => (if t539 = true then (clochelaw09_VeilsTriangles.j0 k l0 l1 bt535.1 ((bt535.1.length : Int) != (l0.length : Int))) else (clochelaw09_VeilsTriangles.j0 k l0 l1 bt535.1 true))) else (clochelaw09_VeilsTriangles.j0 k l0 l1 bt535.1 true))) else (clochelaw09_VeilsTriangles.j1 k l1))) else ((clochelaw09_alive.f).bind fun t533 => (some t533)))
theorem clochelaw09_VeilsTriangles.mono_l : ∀ k, (∀ y0, LeO (clochelaw09_VeilsTriangles.j1 k y0) (clochelaw09_VeilsTriangles.j1 (k + 1) y0)) ∧ (∀ y0 y1 y2 y3, LeO (clochelaw09_VeilsTriangles.j0 k y0 y1 y2 y3) (clochelaw09_VeilsTriangles.j0 (k + 1) y0 y1 y2 y3))
 | 0 => ⟨fun _ r h => by simp [clochelaw09_VeilsTriangles.j1] at h, fun _ _ _ _ r h => by simp [clochelaw09_VeilsTriangles.j0] at h⟩
 | k + 1 => by
  obtain ⟨ih0, ih1⟩ := clochelaw09_VeilsTriangles.mono_l k
  refine ⟨?_, ?_⟩
  · intro y0
    unfold clochelaw09_VeilsTriangles.j1
    repeat' first
    | (with_reducible exact ih0 _)
    | (with_reducible exact ih1 _ _ _ _)
    | (with_reducible exact clochelaw09_fair.mono _ _)
    | (with_reducible exact clochelaw09_few.mono _ _)
    | (with_reducible exact clocheref09_IsVeil.mono _ _)
    | (with_reducible exact clocheref09_Same.mono _ _ _)
    | (with_reducible exact veils_From.mono _ _)
    | (with_reducible exact veils_Triangle.mono _ _)
    | (with_reducible exact LeO.refl _)
    | (with_reducible exact LeO.none _)
    | (with_reducible refine LeO.ite ?_ ?_)
    | (with_reducible refine LeO.bind ?_ (fun _ => ?_))
    | exact ih0 _
    | exact ih1 _ _ _ _
    | exact clochelaw09_fair.mono _ _
    | exact clochelaw09_few.mono _ _
    | exact clocheref09_IsVeil.mono _ _
    | exact clocheref09_Same.mono _ _ _
    | exact veils_From.mono _ _
    | exact veils_Triangle.mono _ _
    | exact LeO.none _
    | refine LeO.ite ?_ ?_
    | refine LeO.bind ?_ (fun _ => ?_)
  · intro y0 y1 y2 y3
    unfold clochelaw09_VeilsTriangles.j0
    repeat' first
    | (with_reducible exact ih0 _)
    | (with_reducible exact ih1 _ _ _ _)
    | (with_reducible exact clochelaw09_fair.mono _ _)
    | (with_reducible exact clochelaw09_few.mono _ _)
    | (with_reducible exact clocheref09_IsVeil.mono _ _)
    | (with_reducible exact clocheref09_Same.mono _ _ _)
    | (with_reducible exact veils_From.mono _ _)
    | (with_reducible exact veils_Triangle.mono _ _)
    | (with_reducible exact LeO.refl _)
    | (with_reducible exact LeO.none _)
    | (with_reducible refine LeO.ite ?_ ?_)
    | (with_reducible refine LeO.bind ?_ (fun _ => ?_))
    | exact ih0 _
    | exact ih1 _ _ _ _
    | exact clochelaw09_fair.mono _ _
    | exact clochelaw09_few.mono _ _
    | exact clocheref09_IsVeil.mono _ _
    | exact clocheref09_Same.mono _ _ _
    | exact veils_From.mono _ _
    | exact veils_Triangle.mono _ _
    | exact LeO.none _
    | refine LeO.ite ?_ ?_
    | refine LeO.bind ?_ (fun _ => ?_)
theorem clochelaw09_VeilsTriangles.mono : ∀ a0 a1 k, LeO (clochelaw09_VeilsTriangles.f k a0 a1) (clochelaw09_VeilsTriangles.f (k + 1) a0 a1) := by
 intro a0 a1 k
 obtain ⟨ih0, ih1⟩ := clochelaw09_VeilsTriangles.mono_l k
 unfold clochelaw09_VeilsTriangles.f
 repeat' first
  | (with_reducible exact ih0 _)
  | (with_reducible exact ih1 _ _ _ _)
  | (with_reducible exact clochelaw09_fair.mono _ _)
  | (with_reducible exact clochelaw09_few.mono _ _)
  | (with_reducible exact clocheref09_IsVeil.mono _ _)
  | (with_reducible exact clocheref09_Same.mono _ _ _)
  | (with_reducible exact veils_From.mono _ _)
  | (with_reducible exact veils_Triangle.mono _ _)
  | (with_reducible exact LeO.refl _)
  | (with_reducible exact LeO.none _)
  | (with_reducible refine LeO.ite ?_ ?_)
  | (with_reducible refine LeO.bind ?_ (fun _ => ?_))
  | exact ih0 _
  | exact ih1 _ _ _ _
  | exact clochelaw09_fair.mono _ _
  | exact clochelaw09_few.mono _ _
  | exact clocheref09_IsVeil.mono _ _
  | exact clocheref09_Same.mono _ _ _
  | exact veils_From.mono _ _
  | exact veils_Triangle.mono _ _
  | exact LeO.none _
  | refine LeO.ite ?_ ?_
  | refine LeO.bind ?_ (fun _ => ?_)
set_option maxHeartbeats 8000000 in
set_option maxRecDepth 100000 in
theorem clochelaw09_VeilsTriangles.calls (k : Nat) (P0_ : Nat → Prop) (A0 : Option Addr) (c0 : Nat) (l0 : List (List Int)) (P1_ : Nat → Prop) (A1 : Option Addr) (c1 : Nat) (l1 : List (List Int)) (w : World) (hs0 : Kd.V (Kd.slice 3 (Kd.int .i64)) 28 w w.heap.size (fun k_ => P0_ k_) (.slice A0 l0.length c0) l0) (hs1 : Kd.V (Kd.slice 3 (Kd.int .i64)) 28 w w.heap.size (fun k_ => P1_ k_) (.slice A1 l1.length c1) l1) (h : clochelaw09_VeilsTriangles.f k l0 l1 = some true) :
 Calls Try.prog 9 #[.slice A0 l0.length c0, .slice A1 l1.length c1] w fun e w' => e = .returned (.bool true) ∧ Below w.heap.size w w' := by
 have HO0 := Aside0.mk (show Kd.V (Kd.slice 3 (Kd.int .i64)) 28 w w.heap.size (fun k_ => ((P0_ k_ ∨ P1_ k_) ∨ w.heap.size ≤ k_)) (.slice A0 l0.length c0) l0 from Kd.V_mono hs0 (fun k_ hk => .inl (.inl hk)))
 have HO1 := Aside0.mk (show Kd.V (Kd.slice 3 (Kd.int .i64)) 28 w w.heap.size (fun k_ => ((P0_ k_ ∨ P1_ k_) ∨ w.heap.size ≤ k_)) (.slice A1 l1.length c1) l1 from Kd.V_mono hs1 (fun k_ hk => .inl (.inr hk)))
 have HB := Aside0.mk (Below.refl w.heap.size w)
 have H : ((clochelaw09_few.f k (([l0, l1] : List (List (List Int))))).bind fun t532 => (if t532 = true then ((clocheref09_IsVeil.f k l0).bind fun t534 => (if t534 = true then ((veils_Triangle.f k l0).bind fun bt535 => (if bt535.2 = 0 then ((clochelaw09_fair.f k bt535.1).bind fun t539 => (if t539 = true then (clochelaw09_VeilsTriangles.j0 k l0 l1 bt535.1 ((bt535.1.length : Int) != (l0.length : Int))) else (clochelaw09_VeilsTriangles.j0 k l0 l1 bt535.1 true))) else (clochelaw09_VeilsTriangles.j0 k l0 l1 bt535.1 true))) else (clochelaw09_VeilsTriangles.j1 k l1))) else ((clochelaw09_alive.f).bind fun t533 => (some t533)))) = some true := h
 clear h
 obtain ⟨y529, hy529⟩ : ∃ y_ : List (List (List Int)), y_ = (([l0, l1] : List (List (List Int)))) := ⟨_, rfl⟩
 replace H : ((clochelaw09_few.f k y529).bind fun t532 => (if t532 = true then ((clocheref09_IsVeil.f k l0).bind fun t534 => (if t534 = true then ((veils_Triangle.f k l0).bind fun bt535 => (if bt535.2 = 0 then ((clochelaw09_fair.f k bt535.1).bind fun t539 => (if t539 = true then (clochelaw09_VeilsTriangles.j0 k l0 l1 bt535.1 ((bt535.1.length : Int) != (l0.length : Int))) else (clochelaw09_VeilsTriangles.j0 k l0 l1 bt535.1 true))) else (clochelaw09_VeilsTriangles.j0 k l0 l1 bt535.1 true))) else (clochelaw09_VeilsTriangles.j1 k l1))) else ((clochelaw09_alive.f).bind fun t533 => (some t533)))) = some true := by first | (rw [hy529]; with_reducible exact H) | (have H2_ := (Option.bind_some _ _).symm.trans H; rw [hy529]; with_reducible exact H2_) | (have H2_ := (Option.bind_some _ _).symm.trans H; with_reducible exact H2_) | with_reducible exact H | (rw [hy529]; exact H) | exact H
 have Ny529 := Aside0.mk hy529
 clear hy529
 replace H := Option.bind_eq_some_iff.mp H
 obtain ⟨t532, A30, H⟩ := H
 replace H : (if t532 = true then ((clocheref09_IsVeil.f k l0).bind fun t534 => (if t534 = true then ((veils_Triangle.f k l0).bind fun bt535 => (if bt535.2 = 0 then ((clochelaw09_fair.f k bt535.1).bind fun t539 => (if t539 = true then (clochelaw09_VeilsTriangles.j0 k l0 l1 bt535.1 ((bt535.1.length : Int) != (l0.length : Int))) else (clochelaw09_VeilsTriangles.j0 k l0 l1 bt535.1 true))) else (clochelaw09_VeilsTriangles.j0 k l0 l1 bt535.1 true))) else (clochelaw09_VeilsTriangles.j1 k l1))) else ((clochelaw09_alive.f).bind fun t533 => (some t533))) = some true := H
 have A3 := Aside0.mk A30
 clear A30
 by_cases c4 : t532 = true
 · subst c4
   have H1 : ((clocheref09_IsVeil.f k l0).bind fun t534 => (if t534 = true then ((veils_Triangle.f k l0).bind fun bt535 => (if bt535.2 = 0 then ((clochelaw09_fair.f k bt535.1).bind fun t539 => (if t539 = true then (clochelaw09_VeilsTriangles.j0 k l0 l1 bt535.1 ((bt535.1.length : Int) != (l0.length : Int))) else (clochelaw09_VeilsTriangles.j0 k l0 l1 bt535.1 true))) else (clochelaw09_VeilsTriangles.j0 k l0 l1 bt535.1 true))) else (clochelaw09_VeilsTriangles.j1 k l1))) = some true := by rw [if_pos rfl] at H; exact H
   clear H
   have H := H1
   clear H1
   replace H := Option.bind_eq_some_iff.mp H
   obtain ⟨t534, A50, H⟩ := H
   replace H : (if t534 = true then ((veils_Triangle.f k l0).bind fun bt535 => (if bt535.2 = 0 then ((clochelaw09_fair.f k bt535.1).bind fun t539 => (if t539 = true then (clochelaw09_VeilsTriangles.j0 k l0 l1 bt535.1 ((bt535.1.length : Int) != (l0.length : Int))) else (clochelaw09_VeilsTriangles.j0 k l0 l1 bt535.1 true))) else (clochelaw09_VeilsTriangles.j0 k l0 l1 bt535.1 true))) else (clochelaw09_VeilsTriangles.j1 k l1)) = some true := H
   have A5 := Aside0.mk A50
   clear A50
   have HC6 := Aside0.mk H
   clear H
   go_enter Try.func9, Try.ntmps9
   go_upto_if 19 with (first | ((with_reducible refine gate_dst (N := 14) rfl ?_); (try (refine gate_guard (by rfl) ?_; dsimp only)); refine Kd.N_lit (Kd.slice 28 (Kd.slice 3 (Kd.int .i64))) _ 27 ?hg (N' := 14) ?hd (xs := ([l0, l1] : List (List (List Int)))) (inner := [.slice A0 l0.length c0, .slice A1 l1.length c1]) (ok := (fun k_ => ((P0_ k_ ∨ P1_ k_) ∨ w.heap.size ≤ k_))) (okp := (fun k_ => ((P0_ k_ ∨ P1_ k_) ∨ w.heap.size ≤ k_))) ?hr ?hp (fun _ hk => hk) ((show ∀ k_, w.heap.size ≤ k_ → (fun k_ => ((P0_ k_ ∨ P1_ k_) ∨ w.heap.size ≤ k_)) k_ from fun k_ hk => (.inr (Nat.le_trans (below_size (bel_)) hk))) _ (Nat.le_refl _)) (Below.refl _ _) (Nat.le_refl _) (by simp) ?_; (case hd => rfl); (case hg => rfl); (case hr => first | (go_simp; done) | (go_simp; rfl)); (case hp => exact (Reps.one (show Kd.FK (Kd.slice 28 (Kd.slice 3 (Kd.int .i64))) _ _ l0 [.slice A0 l0.length c0] from (Kd.FK_slice_mk (Kd.V_reads' (Kd.V_mono (ok' := (fun k_ => ((P0_ k_ ∨ P1_ k_) ∨ w.heap.size ≤ k_))) (HO0.out) (fun k_ hk => hk))).2.1 (Kd.V_F (Kd.V_mono (ok' := (fun k_ => ((P0_ k_ ∨ P1_ k_) ∨ w.heap.size ≤ k_))) (HO0.out) (fun k_ hk => hk))))) (Reps.one (show Kd.FK (Kd.slice 28 (Kd.slice 3 (Kd.int .i64))) _ _ l1 [.slice A1 l1.length c1] from (Kd.FK_slice_mk (Kd.V_reads' (Kd.V_mono (ok' := (fun k_ => ((P0_ k_ ∨ P1_ k_) ∨ w.heap.size ≤ k_))) (HO1.out) (fun k_ hk => hk))).2.1 (Kd.V_F (Kd.V_mono (ok' := (fun k_ => ((P0_ k_ ∨ P1_ k_) ∨ w.heap.size ≤ k_))) (HO1.out) (fun k_ hk => hk))))) (Reps.none _ _)))); intro v530 w7 ho8 hb hg_ hnew_; clear hg_ hnew_; (first | rw [← Ny529.out] at ho8 | (simp only [Int.reduceToNat] at ho8; rw [← Ny529.out] at ho8)); have n0_ := Aside0.mk (Kd.V_elder' (nV_ HO0.out) (Kd.N_base ho8) hb); have n1_ := Aside0.mk (Kd.V_elder' (nV_ HO1.out) (Kd.N_base ho8) hb); have n2_ := Aside0.mk (Kd.N_lower ho8 (below_size (bel_))); have n3_ := Aside0.mk (below_step (bel_) hb); clear HO0; clear HO1; clear HB; have HO0 := n0_; have HO1 := n1_; have HO531 := n2_; have HB := n3_; clear n0_ n1_ n2_ n3_; clear hb ho8; obtain ⟨Ao9, co9, eo9⟩ := Kd.N_slice HO531.out; subst eo9) | ((with_reducible refine gate_callee (f := 21) rfl ?_); refine goesL_ (some 15) rfl rfl Try.func21 (by kernel_rfl) rfl #[.slice Ao9 y529.length co9] rfl ar_ ?_; (with_reducible refine (clochelaw09_few.calls k _ _ y529 true _ ?side1 ?side2 A3.out).mono ?_); (case side1 => repeat (first | exact (Kd.N_reads' HO531.out).2.2 | (with_reducible refine Kd.C_alloc ?_ _) | (with_reducible refine Kd.C_drewN ?_ _) | (with_reducible refine Kd.C_drew ?_))); (case side2 => exact (Kd.N_reads' HO531.out).2.1); rintro e w' ⟨rfl, ⟨nd, rfl⟩⟩; refine ⟨_, rfl, ?_⟩) | ((with_reducible refine gate_callee (f := 19) rfl ?_); refine goesL_ (some 19) rfl rfl Try.func19 (by kernel_rfl) rfl #[.slice A0 l0.length c0] rfl ar_ ?_; (with_reducible refine (clocheref09_IsVeil.calls k _ _ l0 t534 _ ?side1 ?side2 A5.out).mono ?_); (case side1 => repeat (first | exact (Kd.V_reads' HO0.out).2.2 | (with_reducible refine Kd.C_alloc ?_ _) | (with_reducible refine Kd.C_drewN ?_ _) | (with_reducible refine Kd.C_drew ?_))); (case side2 => exact (Kd.V_reads' HO0.out).2.1); rintro e w' ⟨rfl, ⟨nd, rfl⟩⟩; refine ⟨_, rfl, ?_⟩))
   (try simp only [Act.put, List.setIfInBounds_toArray, List.set_cons_zero, List.set_cons_succ])
   go_cut [] (fun wc => ∃ (kq : Nat), Aside0 (clochelaw09_VeilsTriangles.j1 kq l1 = some true) ∧ Aside0 (kq ≤ k) ∧ Aside0 (Kd.V (Kd.slice 3 (Kd.int .i64)) 28 wc w.heap.size (fun k_ => ((P0_ k_ ∨ P1_ k_) ∨ w.heap.size ≤ k_)) (.slice A1 l1.length c1) l1) ∧ Aside0 (Below w.heap.size w wc))
   case first =>
    have H := HC6.out
    clear HC6
    by_cases c10 : t534 = true
    · subst c10
      have H1 : ((veils_Triangle.f k l0).bind fun bt535 => (if bt535.2 = 0 then ((clochelaw09_fair.f k bt535.1).bind fun t539 => (if t539 = true then (clochelaw09_VeilsTriangles.j0 k l0 l1 bt535.1 ((bt535.1.length : Int) != (l0.length : Int))) else (clochelaw09_VeilsTriangles.j0 k l0 l1 bt535.1 true))) else (clochelaw09_VeilsTriangles.j0 k l0 l1 bt535.1 true))) = some true := by rw [if_pos rfl] at H; exact H
      clear H
      have H := H1
      clear H1
      replace H := Option.bind_eq_some_iff.mp H
      obtain ⟨⟨t535, t536⟩, A110, H⟩ := H
      replace H : (if t536 = 0 then ((clochelaw09_fair.f k t535).bind fun t539 => (if t539 = true then (clochelaw09_VeilsTriangles.j0 k l0 l1 t535 ((t535.length : Int) != (l0.length : Int))) else (clochelaw09_VeilsTriangles.j0 k l0 l1 t535 true))) else (clochelaw09_VeilsTriangles.j0 k l0 l1 t535 true)) = some true := H
      have A11 := Aside0.mk A110
      clear A110
      have HC12 := Aside0.mk H
      clear H
      go_upto_region 5 with (first | ((with_reducible refine gate_callee (f := 31) rfl ?_); refine goesL_ (some 22) rfl rfl Try.func31 (by kernel_rfl) rfl #[.slice A0 l0.length c0] rfl ar_ ?_; (with_reducible refine (veils_Triangle.calls k _ _ l0 t535 t536 _ ?side1 ?side2 A11.out).mono ?_); (case side1 => repeat (first | exact (Kd.V_reads' HO0.out).2.2 | (with_reducible refine Kd.C_alloc ?_ _) | (with_reducible refine Kd.C_drewN ?_ _) | (with_reducible refine Kd.C_drew ?_))); (case side2 => exact (Kd.V_reads' HO0.out).2.1); rintro e w13 ⟨v537, rfl, ho0, hb⟩; refine ⟨_, rfl, ?_⟩; have n0_ := Aside0.mk (Kd.V_elder' (nV_ HO0.out) (by first | exact Kd.N_base ho0 | exact Kd.N_base (Kd.S_N ho0)) hb); have n1_ := Aside0.mk (Kd.V_elder' (nV_ HO1.out) (by first | exact Kd.N_base ho0 | exact Kd.N_base (Kd.S_N ho0)) hb); have n2_ := Aside0.mk (Kd.N_elder' (nN_ HO531.out) (by first | exact Kd.N_base ho0 | exact Kd.N_base (Kd.S_N ho0)) hb); have n3_ := Aside0.mk (Kd.N_lower (Kd.N_mono (ok' := fun k_ => ((P0_ k_ ∨ P1_ k_) ∨ w.heap.size ≤ k_) ∧ some k_ ≠ (.slice Ao9 y529.length co9 : Value).ownBlock) (Kd.S_N (Kd.S_bound ho0)) (fun k_ hk_ => ⟨(.inr (Nat.le_trans (below_size (bel_)) hk_.2.1)), (Kd.fresh' (Kd.N_lt (nN_ HO531.out)) k_ hk_.2.1)⟩)) (below_size (bel_))); have n4_ := Aside0.mk (below_step (bel_) hb); clear HO0; clear HO1; clear HO531; clear HB; have HO0 := n0_; have HO1 := n1_; have HO531 := n2_; have HO538 := n3_; have HB := n4_; clear n0_ n1_ n2_ n3_ n4_; (try clear hb); (try clear hb2); (try clear hk); (try clear hi); (try clear ho0)))
      (try simp only [Act.put, List.setIfInBounds_toArray, List.set_cons_zero, List.set_cons_succ])
      go_cut [38] (fun v38 wc => ∃ (kq : Nat) (x38_11 : Bool), v38 = .bool x38_11 ∧ Aside0 (clochelaw09_VeilsTriangles.j0 kq l0 l1 t535 x38_11 = some true) ∧ Aside0 (kq ≤ k) ∧ Aside0 (Kd.V (Kd.slice 3 (Kd.int .i64)) 28 wc w.heap.size (fun k_ => ((P0_ k_ ∨ P1_ k_) ∨ w.heap.size ≤ k_) ∧ some k_ ≠ (v537 : Value).ownBlock) (.slice A0 l0.length c0) l0) ∧ Aside0 (Kd.V (Kd.slice 3 (Kd.int .i64)) 28 wc w.heap.size (fun k_ => ((P0_ k_ ∨ P1_ k_) ∨ w.heap.size ≤ k_) ∧ some k_ ≠ (v537 : Value).ownBlock) (.slice A1 l1.length c1) l1) ∧ Aside0 (Kd.N (Kd.slice 3 (Kd.int .i64)) 28 wc w.heap.size (fun k_ => ((P0_ k_ ∨ P1_ k_) ∨ w.heap.size ≤ k_)) v537 t535) ∧ Aside0 (Below w.heap.size w wc))
      case first =>
       have H := HC12.out
       clear HC12
       by_cases c14 : t536 = 0
       · rw [if_pos c14] at H
         have c14b0 : (t536 == 0) = true := beq_iff_eq.mpr c14
         have c14b1 : (t536 != 0) = false := bne_eq_false_iff_eq.mpr c14
         clear c14
         (first | rw [c14b0] | (simp only [i64_w, i32_w]; rw [c14b0]) | skip)
         replace H := Option.bind_eq_some_iff.mp H
         obtain ⟨t539, A150, H⟩ := H
         replace H : (if t539 = true then (clochelaw09_VeilsTriangles.j0 k l0 l1 t535 ((t535.length : Int) != (l0.length : Int))) else (clochelaw09_VeilsTriangles.j0 k l0 l1 t535 true)) = some true := H
         have A15 := Aside0.mk A150
         clear A150
         by_cases c16 : t539 = true
         · subst c16
           have H1 : (clochelaw09_VeilsTriangles.j0 k l0 l1 t535 ((t535.length : Int) != (l0.length : Int))) = some true := by rw [if_pos rfl] at H; exact H
           clear H
           have H := H1
           clear H1
           have H' := Aside0.mk H
           clear H
           obtain ⟨Ao17, co17, eo17⟩ := Kd.N_slice HO538.out
           subst eo17
           go_wp2_with (first | (go_at_call 32; (with_reducible refine (clochelaw09_fair.calls k _ _ t535 true _ ?side1 ?side2 A15.out).mono ?_); (case side1 => repeat (first | exact (Kd.N_reads' HO538.out).2.2 | (with_reducible refine Kd.C_alloc ?_ _) | (with_reducible refine Kd.C_drewN ?_ _) | (with_reducible refine Kd.C_drew ?_))); (case side2 => exact (Kd.N_reads' HO538.out).2.1); rintro e w' ⟨rfl, ⟨nd, rfl⟩⟩))
           go_meet
           case rel => exact ⟨_, (((t535.length : Int) != (l0.length : Int))), rf_, H', ⟨by first | omega | exact Nat.le_refl _⟩, ⟨by (with_reducible repeat (first | apply Kd.V_alloc | apply Kd.V_drewN | apply Kd.V_drew)); exact Kd.V_mono HO0.out (fun _ hk => ⟨hk.1.1, hk.2⟩)⟩, ⟨by (with_reducible repeat (first | apply Kd.V_alloc | apply Kd.V_drewN | apply Kd.V_drew)); exact Kd.V_mono HO1.out (fun _ hk => ⟨hk.1.1, hk.2⟩)⟩, ⟨by (with_reducible repeat (first | apply Kd.N_alloc | apply Kd.N_drewN | apply Kd.N_drew)); exact Kd.N_mono HO538.out (fun _ hk => hk.1)⟩, ⟨bel_⟩⟩
         · replace c16 := Bool.eq_false_iff.mpr c16
           subst c16
           have H1 : (clochelaw09_VeilsTriangles.j0 k l0 l1 t535 true) = some true := by rw [if_neg (show ¬ (false = true) by decide)] at H; exact H
           clear H
           have H := H1
           clear H1
           have H' := Aside0.mk H
           clear H
           obtain ⟨Ao18, co18, eo18⟩ := Kd.N_slice HO538.out
           subst eo18
           go_wp2_with (first | (go_at_call 32; (with_reducible refine (clochelaw09_fair.calls k _ _ t535 false _ ?side1 ?side2 A15.out).mono ?_); (case side1 => repeat (first | exact (Kd.N_reads' HO538.out).2.2 | (with_reducible refine Kd.C_alloc ?_ _) | (with_reducible refine Kd.C_drewN ?_ _) | (with_reducible refine Kd.C_drew ?_))); (case side2 => exact (Kd.N_reads' HO538.out).2.1); rintro e w' ⟨rfl, ⟨nd, rfl⟩⟩))
           go_meet
           case rel => exact ⟨_, (true), rf_, H', ⟨by first | omega | exact Nat.le_refl _⟩, ⟨by (with_reducible repeat (first | apply Kd.V_alloc | apply Kd.V_drewN | apply Kd.V_drew)); exact Kd.V_mono HO0.out (fun _ hk => ⟨hk.1.1, hk.2⟩)⟩, ⟨by (with_reducible repeat (first | apply Kd.V_alloc | apply Kd.V_drewN | apply Kd.V_drew)); exact Kd.V_mono HO1.out (fun _ hk => ⟨hk.1.1, hk.2⟩)⟩, ⟨by (with_reducible repeat (first | apply Kd.N_alloc | apply Kd.N_drewN | apply Kd.N_drew)); exact Kd.N_mono HO538.out (fun _ hk => hk.1)⟩, ⟨bel_⟩⟩
       · rw [if_neg c14] at H
         have c14b0 : (t536 == 0) = false := beq_eq_false_iff_ne.mpr c14
         have c14b1 : (t536 != 0) = true := bne_iff_ne.mpr c14
         (first | rw [c14b0] | (simp only [i64_w, i32_w]; rw [c14b0]) | skip)
         have H' := Aside0.mk H
         clear H
         go_wp2
         go_meet
         case rel => exact ⟨_, (true), rf_, H', ⟨by first | omega | exact Nat.le_refl _⟩, ⟨by (with_reducible repeat (first | apply Kd.V_alloc | apply Kd.V_drewN | apply Kd.V_drew)); exact Kd.V_mono HO0.out (fun _ hk => ⟨hk.1.1, hk.2⟩)⟩, ⟨by (with_reducible repeat (first | apply Kd.V_alloc | apply Kd.V_drewN | apply Kd.V_drew)); exact Kd.V_mono HO1.out (fun _ hk => ⟨hk.1.1, hk.2⟩)⟩, ⟨by (with_reducible repeat (first | apply Kd.N_alloc | apply Kd.N_drewN | apply Kd.N_drew)); exact Kd.N_mono HO538.out (fun _ hk => hk.1)⟩, ⟨bel_⟩⟩
      case rest =>
       clear HC12
       try clear c1
       try clear c2
       try clear p2
       try clear c3
       try clear c4
       try clear c9
       try clear c10
       try clear c14
       try clear c14b0
       try clear c14b1
       try clear c16
       obtain ⟨kq, x38_11, rfl, HA, HJ11, HO_0, HO_1, HO_5, HB⟩ := hcut
       cases kq with
       | zero => exact absurd HA.out (by simp [clochelaw09_VeilsTriangles.j0])
       | succ kj11 =>
         have H := HA.out
         clear HA
         simp only [clochelaw09_VeilsTriangles.j0] at H
         by_cases c19 : x38_11 = true
         · subst c19
           have H1 : (some false) = some true := by rw [if_pos rfl] at H; exact H
           clear H
           have H := H1
           clear H1
           exact absurd (Option.some.inj H) (by decide)
         · replace c19 := Bool.eq_false_iff.mpr c19
           subst c19
           have H1 : ((veils_From.f kj11 t535).bind fun bt540 => (if bt540.2 = 0 then ((clocheref09_Same.f kj11 bt540.1 l0).bind fun t544 => (if t544 = true then (clochelaw09_VeilsTriangles.j1 kj11 l1) else (some false))) else (some false))) = some true := by rw [if_neg (show ¬ (false = true) by decide)] at H; exact H
           clear H
           have H := H1
           clear H1
           replace H := Option.bind_eq_some_iff.mp H
           obtain ⟨⟨t540, t541⟩, A200, H⟩ := H
           replace H : (if t541 = 0 then ((clocheref09_Same.f kj11 t540 l0).bind fun t544 => (if t544 = true then (clochelaw09_VeilsTriangles.j1 kj11 l1) else (some false))) else (some false)) = some true := H
           have A20 := Aside0.mk A200
           clear A200
           by_cases c21 : t541 = 0
           · rw [if_pos c21] at H
             have c21b0 : (t541 == 0) = true := beq_iff_eq.mpr c21
             have c21b1 : (t541 != 0) = false := bne_eq_false_iff_eq.mpr c21
             clear c21
             replace H := Option.bind_eq_some_iff.mp H
             obtain ⟨t544, A220, H⟩ := H
             replace H : (if t544 = true then (clochelaw09_VeilsTriangles.j1 kj11 l1) else (some false)) = some true := H
             have A22 := Aside0.mk A220
             clear A220
             by_cases c23 : t544 = true
             · subst c23
               have H1 : (clochelaw09_VeilsTriangles.j1 kj11 l1) = some true := by rw [if_pos rfl] at H; exact H
               clear H
               have H := H1
               clear H1
               have H' := Aside0.mk H
               clear H
               obtain ⟨Ao24, co24, eo24⟩ := Kd.N_slice HO_5.out
               subst eo24
               go_wp2_with (first | ((with_reducible refine gate_callee (f := 33) rfl ?_); refine goesL_ (some 41) rfl rfl Try.func33 (by kernel_rfl) rfl #[.slice Ao24 t535.length co24] rfl ar_ ?_; (with_reducible refine (veils_From.calls kj11 _ _ t535 t540 t541 _ ?side1 ?side2 A20.out).mono ?_); (case side1 => repeat (first | exact (Kd.N_reads' HO_5.out).2.2 | (with_reducible refine Kd.C_alloc ?_ _) | (with_reducible refine Kd.C_drewN ?_ _) | (with_reducible refine Kd.C_drew ?_))); (case side2 => exact (Kd.N_reads' HO_5.out).2.1); rintro e w25 ⟨v542, rfl, ho0, hb⟩; refine ⟨_, rfl, ?_⟩; have n0_ := Aside0.mk (Kd.V_elder' (nV_ HO_0.out) (by first | exact Kd.N_base ho0 | exact Kd.N_base (Kd.S_N ho0)) hb); have n1_ := Aside0.mk (Kd.V_elder' (nV_ HO_1.out) (by first | exact Kd.N_base ho0 | exact Kd.N_base (Kd.S_N ho0)) hb); have n2_ := Aside0.mk (Kd.N_elder' (nN_ HO_5.out) (by first | exact Kd.N_base ho0 | exact Kd.N_base (Kd.S_N ho0)) hb); have n3_ := Aside0.mk (Kd.N_lower (Kd.N_mono (ok' := fun k_ => ((P0_ k_ ∨ P1_ k_) ∨ w.heap.size ≤ k_) ∧ some k_ ≠ (.slice Ao24 t535.length co24 : Value).ownBlock) (Kd.S_N (Kd.S_bound ho0)) (fun k_ hk_ => ⟨(.inr (Nat.le_trans (below_size (bel_)) hk_.2.1)), (Kd.fresh' (Kd.N_lt (nN_ HO_5.out)) k_ hk_.2.1)⟩)) (below_size (bel_))); have n4_ := Aside0.mk (below_step (bel_) hb); clear HO_0; clear HO_1; clear HO_5; clear HB; have HO_0 := n0_; have HO_1 := n1_; have HO_5 := n2_; have HO543 := n3_; have HB := n4_; clear n0_ n1_ n2_ n3_ n4_; (try clear hb); (try clear hb2); (try clear hk); (try clear hi); (try clear ho0); obtain ⟨Ao26, co26, eo26⟩ := Kd.N_slice HO543.out; subst eo26) | (go_at_call 14; (with_reducible refine (clocheref09_Same.calls kj11 _ _ t540 _ _ l0 true _ ?side1 ?side2 ?side3 ?side4 A22.out).mono ?_); (case side1 => repeat (first | exact (Kd.N_reads' HO543.out).2.2 | (with_reducible refine Kd.C_alloc ?_ _) | (with_reducible refine Kd.C_drewN ?_ _) | (with_reducible refine Kd.C_drew ?_))); (case side2 => exact (Kd.N_reads' HO543.out).2.1); (case side3 => repeat (first | exact (Kd.V_reads' HO_0.out).2.2 | (with_reducible refine Kd.C_alloc ?_ _) | (with_reducible refine Kd.C_drewN ?_ _) | (with_reducible refine Kd.C_drew ?_))); (case side4 => exact (Kd.V_reads' HO_0.out).2.1); rintro e w' ⟨rfl, ⟨nd, rfl⟩⟩))
               go_meet
               case rel => exact ⟨_, H', ⟨by have := HJ11.out; first | omega | exact Nat.le_refl _⟩, ⟨by (with_reducible repeat (first | apply Kd.V_alloc | apply Kd.V_drewN | apply Kd.V_drew)); exact Kd.V_mono HO_1.out (fun _ hk => hk.1.1)⟩, ⟨bel_⟩⟩
             · replace c23 := Bool.eq_false_iff.mpr c23
               subst c23
               have H1 : (some false) = some true := by rw [if_neg (show ¬ (false = true) by decide)] at H; exact H
               clear H
               have H := H1
               clear H1
               exact absurd (Option.some.inj H) (by decide)
           · rw [if_neg c21] at H
             have c21b0 : (t541 == 0) = false := beq_eq_false_iff_ne.mpr c21
             have c21b1 : (t541 != 0) = true := bne_iff_ne.mpr c21
             exact absurd (Option.some.inj H) (by decide)
    · replace c10 := Bool.eq_false_iff.mpr c10
      subst c10
      have H1 : (clochelaw09_VeilsTriangles.j1 k l1) = some true := by rw [if_neg (show ¬ (false = true) by decide)] at H; exact H
      clear H
      have H := H1
      clear H1
      have H' := Aside0.mk H
      clear H
      go_wp2
      go_meet
      case rel => exact ⟨_, H', ⟨by first | omega | exact Nat.le_refl _⟩, ⟨by (with_reducible repeat (first | apply Kd.V_alloc | apply Kd.V_drewN | apply Kd.V_drew)); exact Kd.V_mono HO1.out (fun _ hk => hk.1)⟩, ⟨bel_⟩⟩
   case rest =>
    clear HC6
    try clear c1
    try clear c2
    try clear p2
    try clear c3
    try clear c4
    try clear c9
    try clear c10
    try clear c14
    try clear c14b0
    try clear c14b1
    try clear c16
    try clear c19
    try clear c21
    try clear c21b0
    try clear c21b1
    try clear c23
    try clear c31
    try clear p2
    obtain ⟨kq, HA, HJ5, HO_1, HB⟩ := hcut
    cases kq with
    | zero => exact absurd HA.out (by simp [clochelaw09_VeilsTriangles.j1])
    | succ kj5 =>
      have H := HA.out
      clear HA
      simp only [clochelaw09_VeilsTriangles.j1] at H
      replace H := Option.bind_eq_some_iff.mp H
      obtain ⟨⟨t545, t546⟩, A320, H⟩ := H
      replace H : ((clochelaw09_fair.f kj5 l1).bind fun t549 => (if t549 = true then ((veils_Triangle.f kj5 t545).bind fun bt551 => (if t546 = 0 then (if bt551.2 = 0 then ((clocheref09_IsVeil.f kj5 t545).bind fun t555 => (if t555 = true then ((clocheref09_Same.f kj5 bt551.1 l1).bind fun t556 => (if t556 = true then ((clochelaw09_alive.f).bind fun t557 => (some t557)) else (some false))) else (some false))) else (some false)) else (some false))) else (if t546 = 2 then (if (t545.length : Int) = 0 then ((clochelaw09_alive.f).bind fun t550 => (some t550)) else (some false)) else (some false)))) = some true := H
      have A32 := Aside0.mk A320
      clear A320
      replace H := Option.bind_eq_some_iff.mp H
      obtain ⟨t549, A330, H⟩ := H
      replace H : (if t549 = true then ((veils_Triangle.f kj5 t545).bind fun bt551 => (if t546 = 0 then (if bt551.2 = 0 then ((clocheref09_IsVeil.f kj5 t545).bind fun t555 => (if t555 = true then ((clocheref09_Same.f kj5 bt551.1 l1).bind fun t556 => (if t556 = true then ((clochelaw09_alive.f).bind fun t557 => (some t557)) else (some false))) else (some false))) else (some false)) else (some false))) else (if t546 = 2 then (if (t545.length : Int) = 0 then ((clochelaw09_alive.f).bind fun t550 => (some t550)) else (some false)) else (some false))) = some true := H
      have A33 := Aside0.mk A330
      clear A330
      by_cases c34 : t549 = true
      · subst c34
        have H1 : ((veils_Triangle.f kj5 t545).bind fun bt551 => (if t546 = 0 then (if bt551.2 = 0 then ((clocheref09_IsVeil.f kj5 t545).bind fun t555 => (if t555 = true then ((clocheref09_Same.f kj5 bt551.1 l1).bind fun t556 => (if t556 = true then ((clochelaw09_alive.f).bind fun t557 => (some t557)) else (some false))) else (some false))) else (some false)) else (some false))) = some true := by rw [if_pos rfl] at H; exact H
        clear H
        have H := H1
        clear H1
        replace H := Option.bind_eq_some_iff.mp H
        obtain ⟨⟨t551, t552⟩, A350, H⟩ := H
        replace H : (if t546 = 0 then (if t552 = 0 then ((clocheref09_IsVeil.f kj5 t545).bind fun t555 => (if t555 = true then ((clocheref09_Same.f kj5 t551 l1).bind fun t556 => (if t556 = true then ((clochelaw09_alive.f).bind fun t557 => (some t557)) else (some false))) else (some false))) else (some false)) else (some false)) = some true := H
        have A35 := Aside0.mk A350
        clear A350
        by_cases c36 : t546 = 0
        · rw [if_pos c36] at H
          have c36b0 : (t546 == 0) = true := beq_iff_eq.mpr c36
          have c36b1 : (t546 != 0) = false := bne_eq_false_iff_eq.mpr c36
          clear c36
          by_cases c37 : t552 = 0
          · rw [if_pos c37] at H
            have c37b0 : (t552 == 0) = true := beq_iff_eq.mpr c37
            have c37b1 : (t552 != 0) = false := bne_eq_false_iff_eq.mpr c37
            clear c37
            replace H := Option.bind_eq_some_iff.mp H
            obtain ⟨t555, A380, H⟩ := H
            replace H : (if t555 = true then ((clocheref09_Same.f kj5 t551 l1).bind fun t556 => (if t556 = true then ((clochelaw09_alive.f).bind fun t557 => (some t557)) else (some false))) else (some false)) = some true := H
            have A38 := Aside0.mk A380
            clear A380
            by_cases c39 : t555 = true
            · subst c39
              have H1 : ((clocheref09_Same.f kj5 t551 l1).bind fun t556 => (if t556 = true then ((clochelaw09_alive.f).bind fun t557 => (some t557)) else (some false))) = some true := by rw [if_pos rfl] at H; exact H
              clear H
              have H := H1
              clear H1
              replace H := Option.bind_eq_some_iff.mp H
              obtain ⟨t556, A400, H⟩ := H
              replace H : (if t556 = true then ((clochelaw09_alive.f).bind fun t557 => (some t557)) else (some false)) = some true := H
              have A40 := Aside0.mk A400
              clear A400
              by_cases c41 : t556 = true
              · subst c41
                have H1 : ((clochelaw09_alive.f).bind fun t557 => (some t557)) = some true := by rw [if_pos rfl] at H; exact H
                clear H
                have H := H1
                clear H1
                replace H := Option.bind_eq_some_iff.mp H
                obtain ⟨t557, A420, H⟩ := H
                replace H : (some t557) = some true := H
                have A42 := Aside0.mk A420
                clear A420
                have HT := Option.some.inj H
                subst HT
                go_wp2_with (first | ((with_reducible refine gate_callee (f := 33) rfl ?_); refine goesL_ (some 54) rfl rfl Try.func33 (by kernel_rfl) rfl #[.slice A1 l1.length c1] rfl ar_ ?_; (with_reducible refine (veils_From.calls kj5 _ _ l1 t545 t546 _ ?side1 ?side2 A32.out).mono ?_); (case side1 => repeat (first | exact (Kd.V_reads' HO_1.out).2.2 | (with_reducible refine Kd.C_alloc ?_ _) | (with_reducible refine Kd.C_drewN ?_ _) | (with_reducible refine Kd.C_drew ?_))); (case side2 => exact (Kd.V_reads' HO_1.out).2.1); rintro e w43 ⟨v547, rfl, ho0, hb⟩; refine ⟨_, rfl, ?_⟩; have n0_ := Aside0.mk (Kd.V_elder' (nV_ HO_1.out) (by first | exact Kd.N_base ho0 | exact Kd.N_base (Kd.S_N ho0)) hb); have n1_ := Aside0.mk (Kd.N_lower (Kd.N_mono (ok' := fun k_ => ((P0_ k_ ∨ P1_ k_) ∨ w.heap.size ≤ k_)) (Kd.S_N (Kd.S_bound ho0)) (fun k_ hk_ => (.inr (Nat.le_trans (below_size (bel_)) hk_.2.1)))) (below_size (bel_))); have n2_ := Aside0.mk (below_step (bel_) hb); clear HO_1; clear HB; have HO_1 := n0_; have HO548 := n1_; have HB := n2_; clear n0_ n1_ n2_; (try clear hb); (try clear hb2); (try clear hk); (try clear hi); (try clear ho0)) | ((with_reducible refine gate_callee (f := 32) rfl ?_); refine goesL_ (some 58) rfl rfl Try.func32 (by kernel_rfl) rfl #[.slice A1 l1.length c1] rfl ar_ ?_; (with_reducible refine (clochelaw09_fair.calls kj5 _ _ l1 true _ ?side1 ?side2 A33.out).mono ?_); (case side1 => repeat (first | exact (Kd.V_reads' HO_1.out).2.2 | (with_reducible refine Kd.C_alloc ?_ _) | (with_reducible refine Kd.C_drewN ?_ _) | (with_reducible refine Kd.C_drew ?_))); (case side2 => exact (Kd.V_reads' HO_1.out).2.1); rintro e w' ⟨rfl, ⟨nd, rfl⟩⟩; refine ⟨_, rfl, ?_⟩; obtain ⟨Ao44, co44, eo44⟩ := Kd.N_slice HO548.out; subst eo44) | ((with_reducible refine gate_callee (f := 31) rfl ?_); refine goesL_ (some 72) rfl rfl Try.func31 (by kernel_rfl) rfl #[.slice Ao44 t545.length co44] rfl ar_ ?_; (with_reducible refine (veils_Triangle.calls kj5 _ _ t545 t551 t552 _ ?side1 ?side2 A35.out).mono ?_); (case side1 => repeat (first | exact (Kd.N_reads' HO548.out).2.2 | (with_reducible refine Kd.C_alloc ?_ _) | (with_reducible refine Kd.C_drewN ?_ _) | (with_reducible refine Kd.C_drew ?_))); (case side2 => exact (Kd.N_reads' HO548.out).2.1); rintro e w45 ⟨v553, rfl, ho0, hb⟩; refine ⟨_, rfl, ?_⟩; have n0_ := Aside0.mk (Kd.V_elder' (nV_ HO_1.out) (by first | exact Kd.N_base ho0 | exact Kd.N_base (Kd.S_N ho0)) hb); have n1_ := Aside0.mk (Kd.N_elder' (nN_ HO548.out) (by first | exact Kd.N_base ho0 | exact Kd.N_base (Kd.S_N ho0)) hb); have n2_ := Aside0.mk (Kd.N_lower (Kd.N_mono (ok' := fun k_ => ((P0_ k_ ∨ P1_ k_) ∨ w.heap.size ≤ k_) ∧ some k_ ≠ (.slice Ao44 t545.length co44 : Value).ownBlock) (Kd.S_N (Kd.S_bound ho0)) (fun k_ hk_ => ⟨(.inr (Nat.le_trans (below_size (bel_)) hk_.2.1)), (Kd.fresh' (Kd.N_lt (nN_ HO548.out)) k_ hk_.2.1)⟩)) (below_size (bel_))); have n3_ := Aside0.mk (below_step (bel_) hb); clear HO_1; clear HO548; clear HB; have HO_1 := n0_; have HO548 := n1_; have HO554 := n2_; have HB := n3_; clear n0_ n1_ n2_ n3_; (try clear hb); (try clear hb2); (try clear hk); (try clear hi); (try clear ho0)) | (go_at_call 19; (with_reducible refine (clocheref09_IsVeil.calls kj5 _ _ t545 true _ ?side1 ?side2 A38.out).mono ?_); (case side1 => repeat (first | exact (Kd.N_reads' HO548.out).2.2 | (with_reducible refine Kd.C_alloc ?_ _) | (with_reducible refine Kd.C_drewN ?_ _) | (with_reducible refine Kd.C_drew ?_))); (case side2 => exact (Kd.N_reads' HO548.out).2.1); rintro e w' ⟨rfl, ⟨nd, rfl⟩⟩; obtain ⟨Ao46, co46, eo46⟩ := Kd.N_slice HO554.out; subst eo46) | (go_at_call 14; (with_reducible refine (clocheref09_Same.calls kj5 _ _ t551 _ _ l1 true _ ?side1 ?side2 ?side3 ?side4 A40.out).mono ?_); (case side1 => repeat (first | exact (Kd.N_reads' HO554.out).2.2 | (with_reducible refine Kd.C_alloc ?_ _) | (with_reducible refine Kd.C_drewN ?_ _) | (with_reducible refine Kd.C_drew ?_))); (case side2 => exact (Kd.N_reads' HO554.out).2.1); (case side3 => repeat (first | exact (Kd.V_reads' HO_1.out).2.2 | (with_reducible refine Kd.C_alloc ?_ _) | (with_reducible refine Kd.C_drewN ?_ _) | (with_reducible refine Kd.C_drew ?_))); (case side4 => exact (Kd.V_reads' HO_1.out).2.1); rintro e w' ⟨rfl, ⟨nd, rfl⟩⟩) | (go_at_call 15; (with_reducible refine (clochelaw09_alive.calls  true _ A42.out).mono ?_); rintro e w47 ⟨rfl, hb⟩; have n0_ := Aside0.mk (Kd.V_below (nV_ HO_1.out) hb); have n1_ := Aside0.mk (Kd.N_below (nN_ HO548.out) hb); have n2_ := Aside0.mk (Kd.N_below (nN_ HO554.out) hb); have n3_ := Aside0.mk (below_step (bel_) hb); clear HO_1; clear HO548; clear HO554; clear HB; have HO_1 := n0_; have HO548 := n1_; have HO554 := n2_; have HB := n3_; clear n0_ n1_ n2_ n3_; (try clear hb); (try clear hb2); (try clear hk); (try clear hi)))
                go_ret
                exact ⟨er_, bel_⟩
              · replace c41 := Bool.eq_false_iff.mpr c41
                subst c41
                have H1 : (some false) = some true := by rw [if_neg (show ¬ (false = true) by decide)] at H; exact H
                clear H
                have H := H1
                clear H1
                exact absurd (Option.some.inj H) (by decide)
            · replace c39 := Bool.eq_false_iff.mpr c39
              subst c39
              have H1 : (some false) = some true := by rw [if_neg (show ¬ (false = true) by decide)] at H; exact H
              clear H
              have H := H1
              clear H1
              exact absurd (Option.some.inj H) (by decide)
          · rw [if_neg c37] at H
            have c37b0 : (t552 == 0) = false := beq_eq_false_iff_ne.mpr c37
            have c37b1 : (t552 != 0) = true := bne_iff_ne.mpr c37
            exact absurd (Option.some.inj H) (by decide)
        · rw [if_neg c36] at H
          have c36b0 : (t546 == 0) = false := beq_eq_false_iff_ne.mpr c36
          have c36b1 : (t546 != 0) = true := bne_iff_ne.mpr c36
          exact absurd (Option.some.inj H) (by decide)
      · replace c34 := Bool.eq_false_iff.mpr c34
        subst c34
        have H1 : (if t546 = 2 then (if (t545.length : Int) = 0 then ((clochelaw09_alive.f).bind fun t550 => (some t550)) else (some false)) else (some false)) = some true := by rw [if_neg (show ¬ (false = true) by decide)] at H; exact H
        clear H
        have H := H1
        clear H1
        by_cases c61 : t546 = 2
        · rw [if_pos c61] at H
          have c61b0 : (t546 == 2) = true := beq_iff_eq.mpr c61
          have c61b1 : (t546 != 2) = false := bne_eq_false_iff_eq.mpr c61
          clear c61
          by_cases c62 : (t545.length : Int) = 0
          · rw [if_pos c62] at H
            have c62b0 : ((t545.length : Int) == 0) = true := beq_iff_eq.mpr c62
            have c62b1 : ((t545.length : Int) != 0) = false := bne_eq_false_iff_eq.mpr c62
            clear c62
            replace H := Option.bind_eq_some_iff.mp H
            obtain ⟨t550, A630, H⟩ := H
            replace H : (some t550) = some true := H
            have A63 := Aside0.mk A630
            clear A630
            have HT := Option.some.inj H
            subst HT
            go_wp2_with (first | ((with_reducible refine gate_callee (f := 33) rfl ?_); refine goesL_ (some 54) rfl rfl Try.func33 (by kernel_rfl) rfl #[.slice A1 l1.length c1] rfl ar_ ?_; (with_reducible refine (veils_From.calls kj5 _ _ l1 t545 t546 _ ?side1 ?side2 A32.out).mono ?_); (case side1 => repeat (first | exact (Kd.V_reads' HO_1.out).2.2 | (with_reducible refine Kd.C_alloc ?_ _) | (with_reducible refine Kd.C_drewN ?_ _) | (with_reducible refine Kd.C_drew ?_))); (case side2 => exact (Kd.V_reads' HO_1.out).2.1); rintro e w64 ⟨v547, rfl, ho0, hb⟩; refine ⟨_, rfl, ?_⟩; have n0_ := Aside0.mk (Kd.V_elder' (nV_ HO_1.out) (by first | exact Kd.N_base ho0 | exact Kd.N_base (Kd.S_N ho0)) hb); have n1_ := Aside0.mk (Kd.N_lower (Kd.N_mono (ok' := fun k_ => ((P0_ k_ ∨ P1_ k_) ∨ w.heap.size ≤ k_)) (Kd.S_N (Kd.S_bound ho0)) (fun k_ hk_ => (.inr (Nat.le_trans (below_size (bel_)) hk_.2.1)))) (below_size (bel_))); have n2_ := Aside0.mk (below_step (bel_) hb); clear HO_1; clear HB; have HO_1 := n0_; have HO548 := n1_; have HB := n2_; clear n0_ n1_ n2_; (try clear hb); (try clear hb2); (try clear hk); (try clear hi); (try clear ho0)) | ((with_reducible refine gate_callee (f := 32) rfl ?_); refine goesL_ (some 58) rfl rfl Try.func32 (by kernel_rfl) rfl #[.slice A1 l1.length c1] rfl ar_ ?_; (with_reducible refine (clochelaw09_fair.calls kj5 _ _ l1 false _ ?side1 ?side2 A33.out).mono ?_); (case side1 => repeat (first | exact (Kd.V_reads' HO_1.out).2.2 | (with_reducible refine Kd.C_alloc ?_ _) | (with_reducible refine Kd.C_drewN ?_ _) | (with_reducible refine Kd.C_drew ?_))); (case side2 => exact (Kd.V_reads' HO_1.out).2.1); rintro e w' ⟨rfl, ⟨nd, rfl⟩⟩; refine ⟨_, rfl, ?_⟩; obtain ⟨Ao65, co65, eo65⟩ := Kd.N_slice HO548.out; subst eo65) | (go_at_call 15; (with_reducible refine (clochelaw09_alive.calls  true _ A63.out).mono ?_); rintro e w66 ⟨rfl, hb⟩; have n0_ := Aside0.mk (Kd.V_below (nV_ HO_1.out) hb); have n1_ := Aside0.mk (Kd.N_below (nN_ HO548.out) hb); have n2_ := Aside0.mk (below_step (bel_) hb); clear HO_1; clear HO548; clear HB; have HO_1 := n0_; have HO548 := n1_; have HB := n2_; clear n0_ n1_ n2_; (try clear hb); (try clear hb2); (try clear hk); (try clear hi)))
            go_ret
            exact ⟨er_, bel_⟩
          · rw [if_neg c62] at H
            have c62b0 : ((t545.length : Int) == 0) = false := beq_eq_false_iff_ne.mpr c62
            have c62b1 : ((t545.length : Int) != 0) = true := bne_iff_ne.mpr c62
            have c62b2 : ¬ (t545 = []) := fun h_ => c62 (by rw [h_]; rfl)
            exact absurd (Option.some.inj H) (by decide)
        · rw [if_neg c61] at H
          have c61b0 : (t546 == 2) = false := beq_eq_false_iff_ne.mpr c61
          have c61b1 : (t546 != 2) = true := bne_iff_ne.mpr c61
          exact absurd (Option.some.inj H) (by decide)
 · replace c4 := Bool.eq_false_iff.mpr c4
   subst c4
   have H1 : ((clochelaw09_alive.f).bind fun t533 => (some t533)) = some true := by rw [if_neg (show ¬ (false = true) by decide)] at H; exact H
   clear H
   have H := H1
   clear H1
   replace H := Option.bind_eq_some_iff.mp H
   obtain ⟨t533, A700, H⟩ := H
   replace H : (some t533) = some true := H
   have A70 := Aside0.mk A700
   clear A700
   have HT := Option.some.inj H
   subst HT
   go_enter Try.func9, Try.ntmps9
   go_wp2_with (first | ((with_reducible refine gate_dst (N := 14) rfl ?_); (try (refine gate_guard (by rfl) ?_; dsimp only)); refine Kd.N_lit (Kd.slice 28 (Kd.slice 3 (Kd.int .i64))) _ 27 ?hg (N' := 14) ?hd (xs := ([l0, l1] : List (List (List Int)))) (inner := [.slice A0 l0.length c0, .slice A1 l1.length c1]) (ok := (fun k_ => ((P0_ k_ ∨ P1_ k_) ∨ w.heap.size ≤ k_))) (okp := (fun k_ => ((P0_ k_ ∨ P1_ k_) ∨ w.heap.size ≤ k_))) ?hr ?hp (fun _ hk => hk) ((show ∀ k_, w.heap.size ≤ k_ → (fun k_ => ((P0_ k_ ∨ P1_ k_) ∨ w.heap.size ≤ k_)) k_ from fun k_ hk => (.inr (Nat.le_trans (below_size (bel_)) hk))) _ (Nat.le_refl _)) (Below.refl _ _) (Nat.le_refl _) (by simp) ?_; (case hd => rfl); (case hg => rfl); (case hr => first | (go_simp; done) | (go_simp; rfl)); (case hp => exact (Reps.one (show Kd.FK (Kd.slice 28 (Kd.slice 3 (Kd.int .i64))) _ _ l0 [.slice A0 l0.length c0] from (Kd.FK_slice_mk (Kd.V_reads' (Kd.V_mono (ok' := (fun k_ => ((P0_ k_ ∨ P1_ k_) ∨ w.heap.size ≤ k_))) (HO0.out) (fun k_ hk => hk))).2.1 (Kd.V_F (Kd.V_mono (ok' := (fun k_ => ((P0_ k_ ∨ P1_ k_) ∨ w.heap.size ≤ k_))) (HO0.out) (fun k_ hk => hk))))) (Reps.one (show Kd.FK (Kd.slice 28 (Kd.slice 3 (Kd.int .i64))) _ _ l1 [.slice A1 l1.length c1] from (Kd.FK_slice_mk (Kd.V_reads' (Kd.V_mono (ok' := (fun k_ => ((P0_ k_ ∨ P1_ k_) ∨ w.heap.size ≤ k_))) (HO1.out) (fun k_ hk => hk))).2.1 (Kd.V_F (Kd.V_mono (ok' := (fun k_ => ((P0_ k_ ∨ P1_ k_) ∨ w.heap.size ≤ k_))) (HO1.out) (fun k_ hk => hk))))) (Reps.none _ _)))); intro v530 w71 ho72 hb hg_ hnew_; clear hg_ hnew_; (first | rw [← Ny529.out] at ho72 | (simp only [Int.reduceToNat] at ho72; rw [← Ny529.out] at ho72)); have n0_ := Aside0.mk (Kd.V_elder' (nV_ HO0.out) (Kd.N_base ho72) hb); have n1_ := Aside0.mk (Kd.V_elder' (nV_ HO1.out) (Kd.N_base ho72) hb); have n2_ := Aside0.mk (Kd.N_lower ho72 (below_size (bel_))); have n3_ := Aside0.mk (below_step (bel_) hb); clear HO0; clear HO1; clear HB; have HO0 := n0_; have HO1 := n1_; have HO531 := n2_; have HB := n3_; clear n0_ n1_ n2_ n3_; clear hb ho72; obtain ⟨Ao73, co73, eo73⟩ := Kd.N_slice HO531.out; subst eo73) | ((with_reducible refine gate_callee (f := 21) rfl ?_); refine goesL_ (some 15) rfl rfl Try.func21 (by kernel_rfl) rfl #[.slice Ao73 y529.length co73] rfl ar_ ?_; (with_reducible refine (clochelaw09_few.calls k _ _ y529 false _ ?side1 ?side2 A3.out).mono ?_); (case side1 => repeat (first | exact (Kd.N_reads' HO531.out).2.2 | (with_reducible refine Kd.C_alloc ?_ _) | (with_reducible refine Kd.C_drewN ?_ _) | (with_reducible refine Kd.C_drew ?_))); (case side2 => exact (Kd.N_reads' HO531.out).2.1); rintro e w' ⟨rfl, ⟨nd, rfl⟩⟩; refine ⟨_, rfl, ?_⟩) | ((with_reducible refine gate_callee (f := 15) rfl ?_); refine goesL_ (some 17) rfl rfl Try.func15 (by kernel_rfl) rfl #[] rfl ar_ ?_; (with_reducible refine (clochelaw09_alive.calls  true _ A70.out).mono ?_); rintro e w74 ⟨rfl, hb⟩; refine ⟨_, rfl, ?_⟩; have n0_ := Aside0.mk (Kd.V_below (nV_ HO0.out) hb); have n1_ := Aside0.mk (Kd.V_below (nV_ HO1.out) hb); have n2_ := Aside0.mk (Kd.N_below (nN_ HO531.out) hb); have n3_ := Aside0.mk (below_step (bel_) hb); clear HO0; clear HO1; clear HO531; clear HB; have HO0 := n0_; have HO1 := n1_; have HO531 := n2_; have HB := n3_; clear n0_ n1_ n2_ n3_; (try clear hb); (try clear hb2); (try clear hk); (try clear hi)))
   go_ret
   exact ⟨er_, bel_⟩

end Go.Proofs.Ytdinepghommchaa.V

/- What the walk of VeilsTriangles computes is true for all inputs. -/
namespace Go.Proofs.Ytdinepghommchaa.V
open Go.RowKit Go.Proofs.YtdinepghommchaaW.PrintWords Go.Proofs.YtdinepghommchaaW.PrintLast Go.Proofs.YtdinepghommchaaW.PrintMore
theorem of_shape {P : List (List Int) → Bool} (h1 : (shp 1 1).all P = true) (h2 : (shp 2 2).all P = true) (h3 : (shp 3 3).all P = true) (h4 : (shp 4 4).all P = true) (h5 : (shp 5 5).all P = true) {t : List (List Int)} (h : Shape t) : P t = true := by
 have hm := h.mem
 have a := h.n1
 have b := h.n5
 generalize t.length = n at hm a b
 have hn : n = 1 ∨ n = 2 ∨ n = 3 ∨ n = 4 ∨ n = 5 := by omega
 rcases hn with rfl | rfl | rfl | rfl | rfl
 · exact List.all_eq_true.mp h1 t hm
 · exact List.all_eq_true.mp h2 t hm
 · exact List.all_eq_true.mp h3 t hm
 · exact List.all_eq_true.mp h4 t hm
 · exact List.all_eq_true.mp h5 t hm
/-- A table is the triangle of a veil, or it is not fair and From refuses it. -/
theorem tri_spec (l : List (List Int)) : (clochelaw09_fair.f 200 l = some false ∧ veils_From.f 200 l = some ([], 2)) ∨
 (clochelaw09_fair.f 200 l = some true ∧ ∃ v, veils_From.f 200 l = some (v, 0) ∧ clocheref09_IsVeil.f 100 v = some true ∧ veils_Triangle.f 200 v = some (l, 0) ∧ clocheref09_Same.f 200 l l = some true) := by
 by_cases hs : Shape l
 · have h := of_shape okT1 okT2 okT3 okT4 okT5 hs
   unfold okT at h
   revert h
   generalize clochelaw09_fair.f 200 l = F
   generalize veils_From.f 200 l = G
   intro h
   match F, G, h with
   | some false, G, h => exact .inl ⟨rfl, by simpa using h⟩
   | some true, some (v, e), h =>
    simp only [Bool.and_eq_true, decide_eq_true_eq, beq_iff_eq] at h
    obtain ⟨⟨⟨rfl, h2⟩, h3⟩, h4⟩ := h
    exact .inr ⟨rfl, v, rfl, h2, h3, h4⟩
 · left
   exact ⟨(fair_spec l).resolve_right hs, (from_spec l).resolve_right hs⟩
theorem triP_spec {t : List (List Int)} (h : Veil t.length t) : ∃ x, veils_Triangle.f 200 t = some (x, 0) ∧ x.length = t.length ∧ clochelaw09_fair.f 200 x = some true ∧ veils_From.f 200 x = some (t, 0) ∧ clocheref09_Same.f 200 t t = some true := by
 have h := of_veil tri_all h
 unfold triP at h
 revert h
 generalize veils_Triangle.f 200 t = G
 intro h
 match G, h with
 | some (x, e), h =>
   simp only [Bool.and_eq_true, decide_eq_true_eq, beq_iff_eq] at h
   obtain ⟨⟨⟨⟨rfl, h2⟩, h3⟩, h4⟩, h5⟩ := h
   exact ⟨x, rfl, h2, h3, h4, h5⟩
theorem tri_j1 (k : Nat) (hk : 500 ≤ k) (l : List (List Int)) : clochelaw09_VeilsTriangles.j1 (k + 1) l = some true := by
 rw [clochelaw09_VeilsTriangles.j1]
 rcases tri_spec l with ⟨h1, h2⟩ | ⟨h1, v, h2, h3, h4, h5⟩
 · rw [lift (fun k => veils_From.mono l k) h2 (show 200 ≤ k by omega)]
   dsimp only [Option.bind_some]
   rw [lift (fun k => clochelaw09_fair.mono l k) h1 (show 200 ≤ k by omega)]
   dsimp only [Option.bind_some]
   rw [if_neg (by decide), if_pos rfl, if_pos (by simp)]
   rfl
 · rw [lift (fun k => veils_From.mono l k) h2 (show 200 ≤ k by omega)]
   dsimp only [Option.bind_some]
   rw [lift (fun k => clochelaw09_fair.mono l k) h1 (show 200 ≤ k by omega)]
   dsimp only [Option.bind_some]
   rw [if_pos rfl, lift (fun k => veils_Triangle.mono v k) h4 (show 200 ≤ k by omega)]
   dsimp only [Option.bind_some]
   rw [if_pos rfl, if_pos rfl, lift (fun k => clocheref09_IsVeil.mono v k) h3 (show 100 ≤ k by omega)]
   dsimp only [Option.bind_some]
   rw [if_pos rfl, lift (fun k => clocheref09_Same.mono l l k) h5 (show 200 ≤ k by omega)]
   dsimp only [Option.bind_some]
   rw [if_pos rfl]
   rfl
theorem tri_go (k : Nat) (hk : 1000 ≤ k) (t l : List (List Int)) : clochelaw09_VeilsTriangles.f (k + 3) t l = some true := by
 unfold clochelaw09_VeilsTriangles.f
 obtain ⟨b, hb⟩ := few_spec [t, l] (by simp)
 rw [lift (fun k => clochelaw09_few.mono [t, l] k) hb (show 500 ≤ k + 3 by omega)]
 dsimp only [Option.bind_some]
 by_cases cb : b = true
 · rw [if_pos cb]
   rcases isVeil_spec t with e | ⟨e, hv⟩
   · rw [lift (fun k => clocheref09_IsVeil.mono t k) e (show 100 ≤ k + 3 by omega)]
     dsimp only [Option.bind_some]
     rw [if_neg (by decide)]
     exact tri_j1 (k + 2) (by omega) l
   · rw [lift (fun k => clocheref09_IsVeil.mono t k) e (show 100 ≤ k + 3 by omega)]
     dsimp only [Option.bind_some]
     obtain ⟨x, h1, h2, h3, h4, h5⟩ := triP_spec hv
     rw [if_pos rfl, lift (fun k => veils_Triangle.mono t k) h1 (show 200 ≤ k + 3 by omega)]
     dsimp only [Option.bind_some]
     rw [if_pos rfl, lift (fun k => clochelaw09_fair.mono x k) h3 (show 200 ≤ k + 3 by omega)]
     dsimp only [Option.bind_some]
     have e2 : ((x.length : Int) != (t.length : Int)) = false := by rw [h2]; simp
     rw [if_pos rfl, e2, clochelaw09_VeilsTriangles.j0, if_neg (by decide), lift (fun k => veils_From.mono x k) h4 (show 200 ≤ k + 2 by omega)]
     dsimp only [Option.bind_some]
     rw [if_pos rfl, lift (fun k => clocheref09_Same.mono t t k) h5 (show 200 ≤ k + 2 by omega)]
     dsimp only [Option.bind_some]
     rw [if_pos rfl]
     exact tri_j1 (k + 1) (by omega) l
 · rw [if_neg cb]
   rfl
theorem tri_true (t l : List (List Int)) : clochelaw09_VeilsTriangles.f (1007 + 3) t l = some true := tri_go 1007 (by decide) t l
end Go.Proofs.Ytdinepghommchaa.V

/- An argument that is a table of numbers, or a row of numbers, opened as the words' rows that can be read. -/
namespace Go.Proofs.Ytdinepghommchaa.V
open Go.RowKit Go.Proofs.YtdinepghommchaaW.PrintWords Go.Proofs.YtdinepghommchaaW.PrintLast Go.Proofs.YtdinepghommchaaW.PrintMore
open Go.ChangeShapes Go.WideShapes Go.Deep Go.ChangeShapes
theorem row_reads {W : World} {A : Option Addr} {L C : Nat} {Z : List Int} (h1 : L ≤ C) (h2 : C ≤ maxLen) (h3 : Z.length = C) (h4 : A = none → C = 0)
 (h5 : ∀ a', A = some a' → ∀ c, c < C → W.cell? (a'.add c) = some (.int .i64 (Z.getD c 0))) :
 (Z.take L).length = L ∧ Kd.C (Kd.int .i64) W A L (Z.take L) := by
 have hl : (Z.take L).length = L := by rw [List.length_take]; omega
 have hm : (maxLen : Nat) = 9223372036854775807 := by decide
 refine ⟨hl, hl, by omega, fun hn => ?_⟩
 cases A with
 | none => have := h4 rfl; omega
 | some a' =>
  refine ⟨a', rfl, fun j p hj => ⟨[.int .i64 p], rfl, rfl, fun i u hu => ?_⟩⟩
  cases i with
  | succ i => simp at hu
  | zero =>
   simp at hu
   subst hu
   have hj' : j < L := by have := (List.getElem?_eq_some_iff.mp hj).1; omega
   have e : Z.getD j 0 = p := by
    rw [List.getElem?_take_of_lt hj'] at hj
    rw [List.getD_eq_getElem?_getD, hj]; rfl
   have := h5 a' rfl j (by omega)
   rw [e] at this
   show W.cell? (a'.add (j * 1 + 0)) = _
   rw [Nat.mul_one, Nat.add_zero]; exact this
theorem open_tab {H : Type} {enc : TypeId × Value → H} {w : World} {base : Nat} {held : Bool} {fuel : Nat} {a : Option Addr} {len cap : Nat} {cs : List Value} {x : DataW H × List MemPlace}
 (hcs : cs = [.slice a len cap]) (h : DataW.trod enc Try.prog w base (fun _ => true) held fuel 27 cs = some x) :
 ∃ l : List (List Int), len = l.length ∧ Kd.C (Kd.slice 3 (Kd.int .i64)) w a l.length l ∧ l.length ≤ cap := by
 subst hcs
 rcases open_int_rows Try.underlying27 Try.underlying28 Try.underlying3 (by kernel_rfl) (by kernel_rfl) h with ⟨hcs, _⟩ | ⟨x', l, c, A, L, C, Z, hcs, _, hl, hm, _, hrows⟩
 · simp at hcs
   obtain ⟨rfl, rfl, rfl⟩ := hcs
   exact ⟨[], rfl, Kd.C_nil _ _, Nat.le_refl _⟩
 · simp at hcs
   obtain ⟨rfl, rfl, rfl⟩ := hcs
   have hmx : (maxLen : Nat) = 9223372036854775807 := by decide
   have e : ((List.range len).map fun r => (Z r).take (L r)).length = len := by simp
   refine ⟨(List.range len).map fun r => (Z r).take (L r), e.symm, ?_, by omega⟩
   refine ⟨rfl, by omega, fun hn => ⟨x', rfl, fun j p hj => ?_⟩⟩
   have hj' : j < len := by have := (List.getElem?_eq_some_iff.mp hj).1; omega
   rw [List.getElem?_map, List.getElem?_range hj'] at hj
   simp at hj
   subst hj
   obtain ⟨hcell, h1, h2, h3, _, h4, h5⟩ := hrows j (by omega)
   obtain ⟨e', hC⟩ := row_reads (W := w) (A := A j) h1 h2 h3 h4 (fun a' ha c hc => (h5 a' ha).2 c hc)
   refine ⟨[.slice (A j) (L j) (C j)], rfl, ⟨A j, C j, by rw [e'], by omega, by rw [e']; exact hC⟩, fun i u hu => ?_⟩
   cases i with
   | succ i => simp at hu
   | zero =>
    simp at hu
    subst hu
    show w.cell? (x'.add (j * 1 + 0)) = _
    rw [Nat.mul_one, Nat.add_zero]; exact hcell
end Go.Proofs.Ytdinepghommchaa.V
