/- The walks, their words and the pure laws under the claim of VeilsApart, part: Vf7, PureApart, Op. -/
import Derived.Test.YtdinepghommchaaCVeilsApart9
import Derived.Test.YtdinepghommchaaCVeilsApart6
import Derived.Test.YtdinepghommchaaCVeilsApart1
import Derived.Test.YtdinepghommchaaCVeilsApart4
import Derived.Test.YtdinepghommchaaCVeilsApart7
import Derived.Deep.Matrix
import Derived.OpenShut
import Derived.ChangeSlices
-- Written by a program of this session over the kit's printer: wip/gp.py.
namespace Go.Proofs.Ytdinepghommchaa.V
open Go.RowKit Go.Proofs.YtdinepghommchaaW.PrintWords Go.Proofs.YtdinepghommchaaW.PrintLast Go.Proofs.YtdinepghommchaaW.PrintMore
attribute [local go_sem] max2_int min2_int max_two min_two max_three min_three max_four min_four   -- for this text's walks alone
set_option linter.unusedVariables false
set_option linter.unusedSimpArgs false

/-! ### clochelaw09_VeilsApart: function 7 -/
mutual
def clochelaw09_VeilsApart.j0 : Nat → List (List Int) → List Int → Bool → Option (Bool)
 | 0, _, _, _ => none
 | k + 1, x0, x1, x18 => if x18 = true then ((clochelaw09_alive.f).bind fun t420 => (some t420)) else ((clocheref09_IsVeil.f k x0).bind fun t421 => (if t421 = true then ((veils_Pairing.f k x0).bind fun bt422 => (if bt422.2 = 0 then (if (bt422.1.length : Int) = (wrap64 (2 * (x0.length : Int))) then ((clocheref09_IsPairing.f k bt422.1).bind fun t426 => (if t426 = true then ((clochelaw09_crosses.f k bt422.1).bind fun t427 => (clochelaw09_VeilsApart.j1 k x1 bt422.1 t427)) else (clochelaw09_VeilsApart.j1 k x1 bt422.1 true))) else (clochelaw09_VeilsApart.j1 k x1 bt422.1 true)) else (clochelaw09_VeilsApart.j1 k x1 bt422.1 true))) else (clochelaw09_VeilsApart.j2 k x1)))
def clochelaw09_VeilsApart.j2 : Nat → List Int → Option (Bool)
 | 0, _ => none
 | k + 1, x1 => (clocheref09_IsPairing.f k x1).bind fun t430 => (if t430 = true then ((veils_Count.f k x1).bind fun bt431 => (if bt431.2 = 0 then ((clochelaw09_crosses.f k x1).bind fun t433 => (if ((bt431.1 == 0) == t433) = true then (if bt431.1 ≥ 0 then ((clochelaw09_alive.f).bind fun t434 => (some t434)) else (some false)) else (some false))) else (some false))) else ((clochelaw09_alive.f).bind fun t435 => (some t435)))
def clochelaw09_VeilsApart.j1 : Nat → List Int → List Int → Bool → Option (Bool)
 | 0, _, _, _ => none
 | k + 1, x1, x5, x45 => if x45 = true then (some false) else ((veils_Count.f k x5).bind fun bt428 => (if bt428.2 = 0 then (if bt428.1 < 1 then (some false) else (clochelaw09_VeilsApart.j2 k x1)) else (some false)))
end
def clochelaw09_VeilsApart.f (k : Nat) (l0 : List (List Int)) (l1 : List Int) : Option (Bool) := (clochelaw09_few.f k (([l0] : List (List (List Int))))).bind fun t419 => (if t419 = true then (clochelaw09_VeilsApart.j0 k l0 l1 (decide ((l1.length : Int) > 40))) else (clochelaw09_VeilsApart.j0 k l0 l1 true))
theorem clochelaw09_VeilsApart.mono_l : ∀ k, (∀ y0 y1 y2, LeO (clochelaw09_VeilsApart.j0 k y0 y1 y2) (clochelaw09_VeilsApart.j0 (k + 1) y0 y1 y2)) ∧ (∀ y0, LeO (clochelaw09_VeilsApart.j2 k y0) (clochelaw09_VeilsApart.j2 (k + 1) y0)) ∧ (∀ y0 y1 y2, LeO (clochelaw09_VeilsApart.j1 k y0 y1 y2) (clochelaw09_VeilsApart.j1 (k + 1) y0 y1 y2))
 | 0 => ⟨fun _ _ _ r h => by simp [clochelaw09_VeilsApart.j0] at h, fun _ r h => by simp [clochelaw09_VeilsApart.j2] at h, fun _ _ _ r h => by simp [clochelaw09_VeilsApart.j1] at h⟩
 | k + 1 => by
  obtain ⟨ih0, ih1, ih2⟩ := clochelaw09_VeilsApart.mono_l k
  refine ⟨?_, ?_, ?_⟩
  · intro y0 y1 y2
    unfold clochelaw09_VeilsApart.j0
    repeat' first
    | (with_reducible exact ih0 _ _ _)
    | (with_reducible exact ih1 _)
    | (with_reducible exact ih2 _ _ _)
    | (with_reducible exact clochelaw09_crosses.mono _ _)
    | (with_reducible exact clochelaw09_few.mono _ _)
    | (with_reducible exact clocheref09_IsPairing.mono _ _)
    | (with_reducible exact clocheref09_IsVeil.mono _ _)
    | (with_reducible exact veils_Count.mono _ _)
    | (with_reducible exact veils_Pairing.mono _ _)
    | (with_reducible exact LeO.refl _)
    | (with_reducible exact LeO.none _)
    | (with_reducible refine LeO.ite ?_ ?_)
    | (with_reducible refine LeO.bind ?_ (fun _ => ?_))
    | exact ih0 _ _ _
    | exact ih1 _
    | exact ih2 _ _ _
    | exact clochelaw09_crosses.mono _ _
    | exact clochelaw09_few.mono _ _
    | exact clocheref09_IsPairing.mono _ _
    | exact clocheref09_IsVeil.mono _ _
    | exact veils_Count.mono _ _
    | exact veils_Pairing.mono _ _
    | exact LeO.none _
    | refine LeO.ite ?_ ?_
    | refine LeO.bind ?_ (fun _ => ?_)
  · intro y0
    unfold clochelaw09_VeilsApart.j2
    repeat' first
    | (with_reducible exact ih0 _ _ _)
    | (with_reducible exact ih1 _)
    | (with_reducible exact ih2 _ _ _)
    | (with_reducible exact clochelaw09_crosses.mono _ _)
    | (with_reducible exact clochelaw09_few.mono _ _)
    | (with_reducible exact clocheref09_IsPairing.mono _ _)
    | (with_reducible exact clocheref09_IsVeil.mono _ _)
    | (with_reducible exact veils_Count.mono _ _)
    | (with_reducible exact veils_Pairing.mono _ _)
    | (with_reducible exact LeO.refl _)
    | (with_reducible exact LeO.none _)
    | (with_reducible refine LeO.ite ?_ ?_)
    | (with_reducible refine LeO.bind ?_ (fun _ => ?_))
    | exact ih0 _ _ _
    | exact ih1 _
    | exact ih2 _ _ _
    | exact clochelaw09_crosses.mono _ _
    | exact clochelaw09_few.mono _ _
    | exact clocheref09_IsPairing.mono _ _
    | exact clocheref09_IsVeil.mono _ _
    | exact veils_Count.mono _ _
    | exact veils_Pairing.mono _ _
    | exact LeO.none _
    | refine LeO.ite ?_ ?_
    | refine LeO.bind ?_ (fun _ => ?_)
  · intro y0 y1 y2
    unfold clochelaw09_VeilsApart.j1
    repeat' first
    | (with_reducible exact ih0 _ _ _)
    | (with_reducible exact ih1 _)
    | (with_reducible exact ih2 _ _ _)
    | (with_reducible exact clochelaw09_crosses.mono _ _)
    | (with_reducible exact clochelaw09_few.mono _ _)
    | (with_reducible exact clocheref09_IsPairing.mono _ _)
    | (with_reducible exact clocheref09_IsVeil.mono _ _)
    | (with_reducible exact veils_Count.mono _ _)
    | (with_reducible exact veils_Pairing.mono _ _)
    | (with_reducible exact LeO.refl _)
    | (with_reducible exact LeO.none _)
    | (with_reducible refine LeO.ite ?_ ?_)
    | (with_reducible refine LeO.bind ?_ (fun _ => ?_))
    | exact ih0 _ _ _
    | exact ih1 _
    | exact ih2 _ _ _
    | exact clochelaw09_crosses.mono _ _
    | exact clochelaw09_few.mono _ _
    | exact clocheref09_IsPairing.mono _ _
    | exact clocheref09_IsVeil.mono _ _
    | exact veils_Count.mono _ _
    | exact veils_Pairing.mono _ _
    | exact LeO.none _
    | refine LeO.ite ?_ ?_
    | refine LeO.bind ?_ (fun _ => ?_)
theorem clochelaw09_VeilsApart.mono : ∀ a0 a1 k, LeO (clochelaw09_VeilsApart.f k a0 a1) (clochelaw09_VeilsApart.f (k + 1) a0 a1) := by
 intro a0 a1 k
 obtain ⟨ih0, ih1, ih2⟩ := clochelaw09_VeilsApart.mono_l k
 unfold clochelaw09_VeilsApart.f
 repeat' first
  | (with_reducible exact ih0 _ _ _)
  | (with_reducible exact ih1 _)
  | (with_reducible exact ih2 _ _ _)
  | (with_reducible exact clochelaw09_crosses.mono _ _)
  | (with_reducible exact clochelaw09_few.mono _ _)
  | (with_reducible exact clocheref09_IsPairing.mono _ _)
  | (with_reducible exact clocheref09_IsVeil.mono _ _)
  | (with_reducible exact veils_Count.mono _ _)
  | (with_reducible exact veils_Pairing.mono _ _)
  | (with_reducible exact LeO.refl _)
  | (with_reducible exact LeO.none _)
  | (with_reducible refine LeO.ite ?_ ?_)
  | (with_reducible refine LeO.bind ?_ (fun _ => ?_))
  | exact ih0 _ _ _
  | exact ih1 _
  | exact ih2 _ _ _
  | exact clochelaw09_crosses.mono _ _
  | exact clochelaw09_few.mono _ _
  | exact clocheref09_IsPairing.mono _ _
  | exact clocheref09_IsVeil.mono _ _
  | exact veils_Count.mono _ _
  | exact veils_Pairing.mono _ _
  | exact LeO.none _
  | refine LeO.ite ?_ ?_
  | refine LeO.bind ?_ (fun _ => ?_)
set_option maxHeartbeats 8000000 in
set_option maxRecDepth 100000 in
theorem clochelaw09_VeilsApart.calls (k : Nat) (P0_ : Nat → Prop) (A0 : Option Addr) (c0 : Nat) (l0 : List (List Int)) (A1 : Option Addr) (c1 : Nat) (l1 : List Int) (w : World) (hs0 : Kd.V (Kd.slice 3 (Kd.int .i64)) 28 w w.heap.size (fun k_ => P0_ k_) (.slice A0 l0.length c0) l0) (hr1 : Kd.C (Kd.int .i64) w A1 l1.length l1) (hc1 : l1.length ≤ c1) (h : clochelaw09_VeilsApart.f k l0 l1 = some true) :
 Calls Try.prog 7 #[.slice A0 l0.length c0, .slice A1 l1.length c1] w fun e w' => e = .returned (.bool true) ∧ Below w.heap.size w w' := by
 have HO0 := Aside0.mk (show Kd.V (Kd.slice 3 (Kd.int .i64)) 28 w w.heap.size (fun k_ => (P0_ k_ ∨ w.heap.size ≤ k_)) (.slice A0 l0.length c0) l0 from Kd.V_mono hs0 (fun k_ hk => .inl hk))
 have HR1 := Aside0.mk hr1
 have HC1 := Aside0.mk hc1
 clear hr1 hc1
 have HB := Aside0.mk (Below.refl w.heap.size w)
 have H : ((clochelaw09_few.f k (([l0] : List (List (List Int))))).bind fun t419 => (if t419 = true then (clochelaw09_VeilsApart.j0 k l0 l1 (decide ((l1.length : Int) > 40))) else (clochelaw09_VeilsApart.j0 k l0 l1 true))) = some true := h
 clear h
 have HC3 := Aside0.mk H
 clear H
 go_enter Try.func7, Try.ntmps7
 go_upto_region 1 with (fail)
 go_cut [18] (fun v18 wc => ∃ (kq : Nat) (x18_2 : Bool), v18 = .bool x18_2 ∧ Aside0 (clochelaw09_VeilsApart.j0 kq l0 l1 x18_2 = some true) ∧ Aside0 (kq ≤ k) ∧ Aside0 (Kd.V (Kd.slice 3 (Kd.int .i64)) 28 wc w.heap.size (fun k_ => (P0_ k_ ∨ w.heap.size ≤ k_)) (.slice A0 l0.length c0) l0) ∧ Aside0 (Below w.heap.size w wc))
 case first =>
  have H := HC3.out
  clear HC3
  obtain ⟨y416, hy416⟩ : ∃ y_ : List (List (List Int)), y_ = (([l0] : List (List (List Int)))) := ⟨_, rfl⟩
  replace H : ((clochelaw09_few.f k y416).bind fun t419 => (if t419 = true then (clochelaw09_VeilsApart.j0 k l0 l1 (decide ((l1.length : Int) > 40))) else (clochelaw09_VeilsApart.j0 k l0 l1 true))) = some true := by first | (rw [hy416]; with_reducible exact H) | (have H2_ := (Option.bind_some _ _).symm.trans H; rw [hy416]; with_reducible exact H2_) | (have H2_ := (Option.bind_some _ _).symm.trans H; with_reducible exact H2_) | with_reducible exact H | (rw [hy416]; exact H) | exact H
  have Ny416 := Aside0.mk hy416
  clear hy416
  replace H := Option.bind_eq_some_iff.mp H
  obtain ⟨t419, A40, H⟩ := H
  replace H : (if t419 = true then (clochelaw09_VeilsApart.j0 k l0 l1 (decide ((l1.length : Int) > 40))) else (clochelaw09_VeilsApart.j0 k l0 l1 true)) = some true := H
  have A4 := Aside0.mk A40
  clear A40
  by_cases c5 : t419 = true
  · subst c5
    have H1 : (clochelaw09_VeilsApart.j0 k l0 l1 (decide ((l1.length : Int) > 40))) = some true := by rw [if_pos rfl] at H; exact H
    clear H
    have H := H1
    clear H1
    have H' := Aside0.mk H
    clear H
    go_wp2_with (first | ((with_reducible refine gate_dst (N := 11) rfl ?_); (try (refine gate_guard (by rfl) ?_; dsimp only)); refine Kd.N_lit (Kd.slice 28 (Kd.slice 3 (Kd.int .i64))) _ 27 ?hg (N' := 11) ?hd (xs := ([l0] : List (List (List Int)))) (inner := [.slice A0 l0.length c0]) (ok := (fun k_ => (P0_ k_ ∨ w.heap.size ≤ k_))) (okp := (fun k_ => (P0_ k_ ∨ w.heap.size ≤ k_))) ?hr ?hp (fun _ hk => hk) ((show ∀ k_, w.heap.size ≤ k_ → (fun k_ => (P0_ k_ ∨ w.heap.size ≤ k_)) k_ from fun k_ hk => (.inr (Nat.le_trans (below_size (by repeat (first | (with_reducible first | exact HB.out | apply below_alloc | apply pw_below_drewN | apply below_drew1) | exact HB.out))) hk))) _ (Nat.le_refl _)) (Below.refl _ _) (Nat.le_refl _) (by simp) ?_; (case hd => rfl); (case hg => rfl); (case hr => first | (go_simp; done) | (go_simp; rfl)); (case hp => exact (Reps.one (show Kd.FK (Kd.slice 28 (Kd.slice 3 (Kd.int .i64))) _ _ l0 [.slice A0 l0.length c0] from (Kd.FK_slice_mk (Kd.V_reads' (Kd.V_mono (ok' := (fun k_ => (P0_ k_ ∨ w.heap.size ≤ k_))) (HO0.out) (fun k_ hk => hk))).2.1 (Kd.V_F (Kd.V_mono (ok' := (fun k_ => (P0_ k_ ∨ w.heap.size ≤ k_))) (HO0.out) (fun k_ hk => hk))))) (Reps.none _ _))); intro v417 w6 ho7 hb hg_ hnew_; clear hg_ hnew_; (first | rw [← Ny416.out] at ho7 | (simp only [Int.reduceToNat] at ho7; rw [← Ny416.out] at ho7)); have n0_ := Aside0.mk (Kd.V_elder' (by (with_reducible repeat (first | apply Kd.V_alloc | apply Kd.V_drewN | apply Kd.V_drew)); exact HO0.out) (Kd.N_base ho7) hb); have n1_ := Aside0.mk (Kd.N_lower ho7 (below_size (by repeat (first | (with_reducible first | exact HB.out | apply below_alloc | apply pw_below_drewN | apply below_drew1) | exact HB.out)))); have n2_ := Aside0.mk (below_step (by repeat (first | (with_reducible first | exact HB.out | apply below_alloc | apply pw_below_drewN | apply below_drew1) | exact HB.out)) hb); clear HO0; clear HB; have HO0 := n0_; have HO418 := n1_; have HB := n2_; clear n0_ n1_ n2_; clear hb ho7; obtain ⟨Ao8, co8, eo8⟩ := Kd.N_slice HO418.out; subst eo8) | ((with_reducible refine gate_callee (f := 21) rfl ?_); refine goesL_ (some 12) rfl rfl Try.func21 (by kernel_rfl) rfl #[.slice Ao8 y416.length co8] rfl (by (try simp only [List.map_toArray, List.map_cons, List.map_nil]); first | done | rfl | (simp only [List.length_drop, List.length_take]; rfl)) ?_; (with_reducible refine (clochelaw09_few.calls k _ _ y416 true _ ?side1 ?side2 A4.out).mono ?_); (case side1 => repeat (first | exact (Kd.N_reads' HO418.out).2.2 | (with_reducible refine Kd.C_alloc ?_ _) | (with_reducible refine Kd.C_drewN ?_ _) | (with_reducible refine Kd.C_drew ?_))); (case side2 => exact (Kd.N_reads' HO418.out).2.1); rintro e w' ⟨rfl, ⟨nd, rfl⟩⟩; refine ⟨_, rfl, ?_⟩))
    go_meet
    case rel => exact ⟨_, (decide ((l1.length : Int) > 40)), (by first | rfl | (simp; done) | (simp [*]; done)), H', ⟨by first | omega | exact Nat.le_refl _⟩, ⟨by (with_reducible repeat (first | apply Kd.V_alloc | apply Kd.V_drewN | apply Kd.V_drew)); exact Kd.V_mono HO0.out (fun _ hk => hk.1)⟩, ⟨by repeat (first | (with_reducible first | exact HB.out | apply below_alloc | apply pw_below_drewN | apply below_drew1) | exact HB.out)⟩⟩
  · replace c5 := Bool.eq_false_iff.mpr c5
    subst c5
    have H1 : (clochelaw09_VeilsApart.j0 k l0 l1 true) = some true := by rw [if_neg (show ¬ (false = true) by decide)] at H; exact H
    clear H
    have H := H1
    clear H1
    have H' := Aside0.mk H
    clear H
    go_wp2_with (first | ((with_reducible refine gate_dst (N := 11) rfl ?_); (try (refine gate_guard (by rfl) ?_; dsimp only)); refine Kd.N_lit (Kd.slice 28 (Kd.slice 3 (Kd.int .i64))) _ 27 ?hg (N' := 11) ?hd (xs := ([l0] : List (List (List Int)))) (inner := [.slice A0 l0.length c0]) (ok := (fun k_ => (P0_ k_ ∨ w.heap.size ≤ k_))) (okp := (fun k_ => (P0_ k_ ∨ w.heap.size ≤ k_))) ?hr ?hp (fun _ hk => hk) ((show ∀ k_, w.heap.size ≤ k_ → (fun k_ => (P0_ k_ ∨ w.heap.size ≤ k_)) k_ from fun k_ hk => (.inr (Nat.le_trans (below_size (by repeat (first | (with_reducible first | exact HB.out | apply below_alloc | apply pw_below_drewN | apply below_drew1) | exact HB.out))) hk))) _ (Nat.le_refl _)) (Below.refl _ _) (Nat.le_refl _) (by simp) ?_; (case hd => rfl); (case hg => rfl); (case hr => first | (go_simp; done) | (go_simp; rfl)); (case hp => exact (Reps.one (show Kd.FK (Kd.slice 28 (Kd.slice 3 (Kd.int .i64))) _ _ l0 [.slice A0 l0.length c0] from (Kd.FK_slice_mk (Kd.V_reads' (Kd.V_mono (ok' := (fun k_ => (P0_ k_ ∨ w.heap.size ≤ k_))) (HO0.out) (fun k_ hk => hk))).2.1 (Kd.V_F (Kd.V_mono (ok' := (fun k_ => (P0_ k_ ∨ w.heap.size ≤ k_))) (HO0.out) (fun k_ hk => hk))))) (Reps.none _ _))); intro v417 w9 ho10 hb hg_ hnew_; clear hg_ hnew_; (first | rw [← Ny416.out] at ho10 | (simp only [Int.reduceToNat] at ho10; rw [← Ny416.out] at ho10)); have n0_ := Aside0.mk (Kd.V_elder' (by (with_reducible repeat (first | apply Kd.V_alloc | apply Kd.V_drewN | apply Kd.V_drew)); exact HO0.out) (Kd.N_base ho10) hb); have n1_ := Aside0.mk (Kd.N_lower ho10 (below_size (by repeat (first | (with_reducible first | exact HB.out | apply below_alloc | apply pw_below_drewN | apply below_drew1) | exact HB.out)))); have n2_ := Aside0.mk (below_step (by repeat (first | (with_reducible first | exact HB.out | apply below_alloc | apply pw_below_drewN | apply below_drew1) | exact HB.out)) hb); clear HO0; clear HB; have HO0 := n0_; have HO418 := n1_; have HB := n2_; clear n0_ n1_ n2_; clear hb ho10; obtain ⟨Ao11, co11, eo11⟩ := Kd.N_slice HO418.out; subst eo11) | ((with_reducible refine gate_callee (f := 21) rfl ?_); refine goesL_ (some 12) rfl rfl Try.func21 (by kernel_rfl) rfl #[.slice Ao11 y416.length co11] rfl (by (try simp only [List.map_toArray, List.map_cons, List.map_nil]); first | done | rfl | (simp only [List.length_drop, List.length_take]; rfl)) ?_; (with_reducible refine (clochelaw09_few.calls k _ _ y416 false _ ?side1 ?side2 A4.out).mono ?_); (case side1 => repeat (first | exact (Kd.N_reads' HO418.out).2.2 | (with_reducible refine Kd.C_alloc ?_ _) | (with_reducible refine Kd.C_drewN ?_ _) | (with_reducible refine Kd.C_drew ?_))); (case side2 => exact (Kd.N_reads' HO418.out).2.1); rintro e w' ⟨rfl, ⟨nd, rfl⟩⟩; refine ⟨_, rfl, ?_⟩))
    go_meet
    case rel => exact ⟨_, (true), (by first | rfl | (simp; done) | (simp [*]; done)), H', ⟨by first | omega | exact Nat.le_refl _⟩, ⟨by (with_reducible repeat (first | apply Kd.V_alloc | apply Kd.V_drewN | apply Kd.V_drew)); exact Kd.V_mono HO0.out (fun _ hk => hk.1)⟩, ⟨by repeat (first | (with_reducible first | exact HB.out | apply below_alloc | apply pw_below_drewN | apply below_drew1) | exact HB.out)⟩⟩
 case rest =>
  clear HC3
  try clear c1
  try clear c2
  try clear p2
  try clear c5
  try clear c7
  obtain ⟨kq, x18_2, rfl, HA, HJ2, HO_0, HB⟩ := hcut
  cases kq with
  | zero => exact absurd HA.out (by simp [clochelaw09_VeilsApart.j0])
  | succ kj2 =>
    have H := HA.out
    clear HA
    simp only [clochelaw09_VeilsApart.j0] at H
    by_cases c12 : x18_2 = true
    · subst c12
      have H1 : ((clochelaw09_alive.f).bind fun t420 => (some t420)) = some true := by rw [if_pos rfl] at H; exact H
      clear H
      have H := H1
      clear H1
      replace H := Option.bind_eq_some_iff.mp H
      obtain ⟨t420, A130, H⟩ := H
      replace H : (some t420) = some true := H
      have A13 := Aside0.mk A130
      clear A130
      have HT := Option.some.inj H
      subst HT
      go_wp2_with (first | ((with_reducible refine gate_callee (f := 15) rfl ?_); refine goesL_ (some 19) rfl rfl Try.func15 (by kernel_rfl) rfl #[] rfl (by (try simp only [List.map_toArray, List.map_cons, List.map_nil]); first | done | rfl | (simp only [List.length_drop, List.length_take]; rfl)) ?_; (with_reducible refine (clochelaw09_alive.calls  true _ A13.out).mono ?_); rintro e w14 ⟨rfl, hb⟩; refine ⟨_, rfl, ?_⟩; have n0_ := Aside0.mk (Kd.V_below (by (with_reducible repeat (first | apply Kd.V_alloc | apply Kd.V_drewN | apply Kd.V_drew)); exact HO_0.out) hb); have n1_ := Aside0.mk (below_step (by repeat (first | (with_reducible first | exact HB.out | apply below_alloc | apply pw_below_drewN | apply below_drew1) | exact HB.out)) hb); clear HO_0; clear HB; have HO_0 := n0_; have HB := n1_; clear n0_ n1_; (try clear hb); (try clear hb2); (try clear hk); (try clear hi)))
      go_ret
      exact ⟨by first | rfl | (simp [errW_none, errW_some] <;> rfl) | (simp [*, errW_none, errW_some] <;> rfl), by repeat (first | (with_reducible first | exact HB.out | apply below_alloc | apply pw_below_drewN | apply below_drew1) | exact HB.out)⟩
    · replace c12 := Bool.eq_false_iff.mpr c12
      subst c12
      have H1 : ((clocheref09_IsVeil.f kj2 l0).bind fun t421 => (if t421 = true then ((veils_Pairing.f kj2 l0).bind fun bt422 => (if bt422.2 = 0 then (if (bt422.1.length : Int) = (wrap64 (2 * (l0.length : Int))) then ((clocheref09_IsPairing.f kj2 bt422.1).bind fun t426 => (if t426 = true then ((clochelaw09_crosses.f kj2 bt422.1).bind fun t427 => (clochelaw09_VeilsApart.j1 kj2 l1 bt422.1 t427)) else (clochelaw09_VeilsApart.j1 kj2 l1 bt422.1 true))) else (clochelaw09_VeilsApart.j1 kj2 l1 bt422.1 true)) else (clochelaw09_VeilsApart.j1 kj2 l1 bt422.1 true))) else (clochelaw09_VeilsApart.j2 kj2 l1))) = some true := by rw [if_neg (show ¬ (false = true) by decide)] at H; exact H
      clear H
      have H := H1
      clear H1
      replace H := Option.bind_eq_some_iff.mp H
      obtain ⟨t421, A150, H⟩ := H
      replace H : (if t421 = true then ((veils_Pairing.f kj2 l0).bind fun bt422 => (if bt422.2 = 0 then (if (bt422.1.length : Int) = (wrap64 (2 * (l0.length : Int))) then ((clocheref09_IsPairing.f kj2 bt422.1).bind fun t426 => (if t426 = true then ((clochelaw09_crosses.f kj2 bt422.1).bind fun t427 => (clochelaw09_VeilsApart.j1 kj2 l1 bt422.1 t427)) else (clochelaw09_VeilsApart.j1 kj2 l1 bt422.1 true))) else (clochelaw09_VeilsApart.j1 kj2 l1 bt422.1 true)) else (clochelaw09_VeilsApart.j1 kj2 l1 bt422.1 true))) else (clochelaw09_VeilsApart.j2 kj2 l1)) = some true := H
      have A15 := Aside0.mk A150
      clear A150
      have HC16 := Aside0.mk H
      clear H
      go_upto_if 21 with (first | ((with_reducible refine gate_callee (f := 19) rfl ?_); refine goesL_ (some 21) rfl rfl Try.func19 (by kernel_rfl) rfl #[.slice A0 l0.length c0] rfl (by (try simp only [List.map_toArray, List.map_cons, List.map_nil]); first | done | rfl | (simp only [List.length_drop, List.length_take]; rfl)) ?_; (with_reducible refine (clocheref09_IsVeil.calls kj2 _ _ l0 t421 _ ?side1 ?side2 A15.out).mono ?_); (case side1 => repeat (first | exact (Kd.V_reads' HO_0.out).2.2 | (with_reducible refine Kd.C_alloc ?_ _) | (with_reducible refine Kd.C_drewN ?_ _) | (with_reducible refine Kd.C_drew ?_))); (case side2 => exact (Kd.V_reads' HO_0.out).2.1); rintro e w' ⟨rfl, ⟨nd, rfl⟩⟩; refine ⟨_, rfl, ?_⟩))
      (try simp only [Act.put, List.setIfInBounds_toArray, List.set_cons_zero, List.set_cons_succ])
      go_cut [] (fun wc => ∃ (kq : Nat), Aside0 (clochelaw09_VeilsApart.j2 kq l1 = some true) ∧ Aside0 (kq ≤ kj2) ∧ Aside0 (Below w.heap.size w wc))
      case first =>
       have H := HC16.out
       clear HC16
       by_cases c17 : t421 = true
       · subst c17
         have H1 : ((veils_Pairing.f kj2 l0).bind fun bt422 => (if bt422.2 = 0 then (if (bt422.1.length : Int) = (wrap64 (2 * (l0.length : Int))) then ((clocheref09_IsPairing.f kj2 bt422.1).bind fun t426 => (if t426 = true then ((clochelaw09_crosses.f kj2 bt422.1).bind fun t427 => (clochelaw09_VeilsApart.j1 kj2 l1 bt422.1 t427)) else (clochelaw09_VeilsApart.j1 kj2 l1 bt422.1 true))) else (clochelaw09_VeilsApart.j1 kj2 l1 bt422.1 true)) else (clochelaw09_VeilsApart.j1 kj2 l1 bt422.1 true))) = some true := by rw [if_pos rfl] at H; exact H
         clear H
         have H := H1
         clear H1
         replace H := Option.bind_eq_some_iff.mp H
         obtain ⟨⟨t422, t423⟩, A180, H⟩ := H
         replace H : (if t423 = 0 then (if (t422.length : Int) = (wrap64 (2 * (l0.length : Int))) then ((clocheref09_IsPairing.f kj2 t422).bind fun t426 => (if t426 = true then ((clochelaw09_crosses.f kj2 t422).bind fun t427 => (clochelaw09_VeilsApart.j1 kj2 l1 t422 t427)) else (clochelaw09_VeilsApart.j1 kj2 l1 t422 true))) else (clochelaw09_VeilsApart.j1 kj2 l1 t422 true)) else (clochelaw09_VeilsApart.j1 kj2 l1 t422 true)) = some true := H
         have A18 := Aside0.mk A180
         clear A180
         have HC19 := Aside0.mk H
         clear H
         go_upto_region 5 with (first | ((with_reducible refine gate_callee (f := 22) rfl ?_); refine goesL_ (some 24) rfl rfl Try.func22 (by kernel_rfl) rfl #[.slice A0 l0.length c0] rfl (by (try simp only [List.map_toArray, List.map_cons, List.map_nil]); first | done | rfl | (simp only [List.length_drop, List.length_take]; rfl)) ?_; (with_reducible refine (veils_Pairing.calls kj2 _ _ l0 t422 t423 _ ?side1 ?side2 A18.out).mono ?_); (case side1 => repeat (first | exact (Kd.V_reads' HO_0.out).2.2 | (with_reducible refine Kd.C_alloc ?_ _) | (with_reducible refine Kd.C_drewN ?_ _) | (with_reducible refine Kd.C_drew ?_))); (case side2 => exact (Kd.V_reads' HO_0.out).2.1); rintro e w20 ⟨v424, rfl, ho0, hb⟩; refine ⟨_, rfl, ?_⟩; have n0_ := Aside0.mk (Kd.V_elder' (by (with_reducible repeat (first | apply Kd.V_alloc | apply Kd.V_drewN | apply Kd.V_drew)); exact HO_0.out) (Kd.R_base ho0) hb); have n1_ := Aside0.mk (Kd.R_lower (Kd.R_newM (M := fun k_ => (w.heap.size ≤ k_)) ho0 (below_size (by repeat (first | (with_reducible first | exact HB.out | apply below_alloc | apply pw_below_drewN | apply below_drew1) | exact HB.out))) (fun k_ h_ => h_)) (below_size (by repeat (first | (with_reducible first | exact HB.out | apply below_alloc | apply pw_below_drewN | apply below_drew1) | exact HB.out)))); have n2_ := Aside0.mk (below_step (by repeat (first | (with_reducible first | exact HB.out | apply below_alloc | apply pw_below_drewN | apply below_drew1) | exact HB.out)) hb); clear HO_0; clear HB; have HO_0 := n0_; have HO425 := n1_; have HB := n2_; clear n0_ n1_ n2_; (try clear hb); (try clear hb2); (try clear hk); (try clear hi); (try clear ho0)))
         (try simp only [Act.put, List.setIfInBounds_toArray, List.set_cons_zero, List.set_cons_succ])
         go_cut [45] (fun v45 wc => ∃ (kq : Nat) (x45_18 : Bool), v45 = .bool x45_18 ∧ Aside0 (clochelaw09_VeilsApart.j1 kq l1 t422 x45_18 = some true) ∧ Aside0 (kq ≤ kj2) ∧ Aside0 (Kd.R (Kd.int .i64) 3 wc w.heap.size (fun k_ => (w.heap.size ≤ k_)) v424 t422) ∧ Aside0 (Below w.heap.size w wc))
         case first =>
          have H := HC19.out
          clear HC19
          by_cases c21 : t423 = 0
          · rw [if_pos c21] at H
            have c21b0 : (t423 == 0) = true := beq_iff_eq.mpr c21
            have c21b1 : (t423 != 0) = false := bne_eq_false_iff_eq.mpr c21
            clear c21
            (first | rw [c21b0] | (simp only [i64_w, i32_w]; rw [c21b0]) | skip)
            by_cases c22 : (t422.length : Int) = (wrap64 (2 * (l0.length : Int)))
            · rw [if_pos c22] at H
              have c22b0 : ((t422.length : Int) == (wrap64 (2 * (l0.length : Int)))) = true := beq_iff_eq.mpr c22
              have c22b1 : ((t422.length : Int) != (wrap64 (2 * (l0.length : Int)))) = false := bne_eq_false_iff_eq.mpr c22
              clear c22
              replace H := Option.bind_eq_some_iff.mp H
              obtain ⟨t426, A230, H⟩ := H
              replace H : (if t426 = true then ((clochelaw09_crosses.f kj2 t422).bind fun t427 => (clochelaw09_VeilsApart.j1 kj2 l1 t422 t427)) else (clochelaw09_VeilsApart.j1 kj2 l1 t422 true)) = some true := H
              have A23 := Aside0.mk A230
              clear A230
              by_cases c24 : t426 = true
              · subst c24
                have H1 : ((clochelaw09_crosses.f kj2 t422).bind fun t427 => (clochelaw09_VeilsApart.j1 kj2 l1 t422 t427)) = some true := by rw [if_pos rfl] at H; exact H
                clear H
                have H := H1
                clear H1
                replace H := Option.bind_eq_some_iff.mp H
                obtain ⟨t427, A250, H⟩ := H
                replace H : (clochelaw09_VeilsApart.j1 kj2 l1 t422 t427) = some true := H
                have A25 := Aside0.mk A250
                clear A250
                have H' := Aside0.mk H
                clear H
                obtain ⟨Ao26, co26, eo26⟩ := Kd.R_slice HO425.out
                subst eo26
                go_wp2_with (first | (go_at_call 26; (with_reducible refine (clocheref09_IsPairing.calls kj2 _ _ t422 true _ ?side1 ?side2 A23.out).mono ?_); (case side1 => repeat (first | exact (Kd.R_reads' HO425.out).2.2 | (with_reducible refine Kd.C_alloc ?_ _) | (with_reducible refine Kd.C_drewN ?_ _) | (with_reducible refine Kd.C_drew ?_))); (case side2 => exact (Kd.R_reads' HO425.out).2.1); rintro e w' ⟨rfl, ⟨nd, rfl⟩⟩) | (go_at_call 27; (with_reducible refine (clochelaw09_crosses.calls kj2 _ _ t422 t427 _ ?side1 ?side2 A25.out).mono ?_); (case side1 => repeat (first | exact (Kd.R_reads' HO425.out).2.2 | (with_reducible refine Kd.C_alloc ?_ _) | (with_reducible refine Kd.C_drewN ?_ _) | (with_reducible refine Kd.C_drew ?_))); (case side2 => exact (Kd.R_reads' HO425.out).2.1); rintro e w' ⟨rfl, ⟨nd, rfl⟩⟩))
                go_meet
                case rel => exact ⟨_, (t427), (by first | rfl | (simp; done) | (simp [*]; done)), H', ⟨by have := HJ2.out; first | omega | exact Nat.le_refl _⟩, ⟨by (with_reducible repeat (first | apply Kd.R_alloc | apply Kd.R_drewN | apply Kd.R_drew)); exact Kd.R_mono HO425.out (fun _ hk => hk.1)⟩, ⟨by repeat (first | (with_reducible first | exact HB.out | apply below_alloc | apply pw_below_drewN | apply below_drew1) | exact HB.out)⟩⟩
              · replace c24 := Bool.eq_false_iff.mpr c24
                subst c24
                have H1 : (clochelaw09_VeilsApart.j1 kj2 l1 t422 true) = some true := by rw [if_neg (show ¬ (false = true) by decide)] at H; exact H
                clear H
                have H := H1
                clear H1
                have H' := Aside0.mk H
                clear H
                obtain ⟨Ao27, co27, eo27⟩ := Kd.R_slice HO425.out
                subst eo27
                go_wp2_with (first | (go_at_call 26; (with_reducible refine (clocheref09_IsPairing.calls kj2 _ _ t422 false _ ?side1 ?side2 A23.out).mono ?_); (case side1 => repeat (first | exact (Kd.R_reads' HO425.out).2.2 | (with_reducible refine Kd.C_alloc ?_ _) | (with_reducible refine Kd.C_drewN ?_ _) | (with_reducible refine Kd.C_drew ?_))); (case side2 => exact (Kd.R_reads' HO425.out).2.1); rintro e w' ⟨rfl, ⟨nd, rfl⟩⟩))
                go_meet
                case rel => exact ⟨_, (true), (by first | rfl | (simp; done) | (simp [*]; done)), H', ⟨by have := HJ2.out; first | omega | exact Nat.le_refl _⟩, ⟨by (with_reducible repeat (first | apply Kd.R_alloc | apply Kd.R_drewN | apply Kd.R_drew)); exact Kd.R_mono HO425.out (fun _ hk => hk.1)⟩, ⟨by repeat (first | (with_reducible first | exact HB.out | apply below_alloc | apply pw_below_drewN | apply below_drew1) | exact HB.out)⟩⟩
            · rw [if_neg c22] at H
              have c22b0 : ((t422.length : Int) == (wrap64 (2 * (l0.length : Int)))) = false := beq_eq_false_iff_ne.mpr c22
              have c22b1 : ((t422.length : Int) != (wrap64 (2 * (l0.length : Int)))) = true := bne_iff_ne.mpr c22
              have H' := Aside0.mk H
              clear H
              obtain ⟨Ao28, co28, eo28⟩ := Kd.R_slice HO425.out
              subst eo28
              go_wp2
              go_meet
              case rel => exact ⟨_, (true), (by first | rfl | (simp; done) | (simp [*]; done)), H', ⟨by have := HJ2.out; first | omega | exact Nat.le_refl _⟩, ⟨by (with_reducible repeat (first | apply Kd.R_alloc | apply Kd.R_drewN | apply Kd.R_drew)); exact Kd.R_mono HO425.out (fun _ hk => hk.1)⟩, ⟨by repeat (first | (with_reducible first | exact HB.out | apply below_alloc | apply pw_below_drewN | apply below_drew1) | exact HB.out)⟩⟩
          · rw [if_neg c21] at H
            have c21b0 : (t423 == 0) = false := beq_eq_false_iff_ne.mpr c21
            have c21b1 : (t423 != 0) = true := bne_iff_ne.mpr c21
            (first | rw [c21b0] | (simp only [i64_w, i32_w]; rw [c21b0]) | skip)
            have H' := Aside0.mk H
            clear H
            go_wp2
            go_meet
            case rel => exact ⟨_, (true), (by first | rfl | (simp; done) | (simp [*]; done)), H', ⟨by have := HJ2.out; first | omega | exact Nat.le_refl _⟩, ⟨by (with_reducible repeat (first | apply Kd.R_alloc | apply Kd.R_drewN | apply Kd.R_drew)); exact Kd.R_mono HO425.out (fun _ hk => hk.1)⟩, ⟨by repeat (first | (with_reducible first | exact HB.out | apply below_alloc | apply pw_below_drewN | apply below_drew1) | exact HB.out)⟩⟩
         case rest =>
          clear HC19
          try clear c1
          try clear c2
          try clear p2
          try clear c5
          try clear p6
          try clear c7
          try clear c12
          try clear c15
          try clear c17
          try clear c19
          try clear c21
          try clear c21b0
          try clear c21b1
          try clear c22
          try clear c22b0
          try clear c22b1
          try clear c24
          try clear p2
          obtain ⟨kq, x45_18, rfl, HA, HJ18, HO_5, HB⟩ := hcut
          cases kq with
          | zero => exact absurd HA.out (by simp [clochelaw09_VeilsApart.j1])
          | succ kj18 =>
            have H := HA.out
            clear HA
            simp only [clochelaw09_VeilsApart.j1] at H
            by_cases c29 : x45_18 = true
            · subst c29
              have H1 : (some false) = some true := by rw [if_pos rfl] at H; exact H
              clear H
              have H := H1
              clear H1
              exact absurd (Option.some.inj H) (by decide)
            · replace c29 := Bool.eq_false_iff.mpr c29
              subst c29
              have H1 : ((veils_Count.f kj18 t422).bind fun bt428 => (if bt428.2 = 0 then (if bt428.1 < 1 then (some false) else (clochelaw09_VeilsApart.j2 kj18 l1)) else (some false))) = some true := by rw [if_neg (show ¬ (false = true) by decide)] at H; exact H
              clear H
              have H := H1
              clear H1
              replace H := Option.bind_eq_some_iff.mp H
              obtain ⟨⟨t428, t429⟩, A300, H⟩ := H
              replace H : (if t429 = 0 then (if t428 < 1 then (some false) else (clochelaw09_VeilsApart.j2 kj18 l1)) else (some false)) = some true := H
              have A30 := Aside0.mk A300
              clear A300
              by_cases c31 : t429 = 0
              · rw [if_pos c31] at H
                have c31b0 : (t429 == 0) = true := beq_iff_eq.mpr c31
                have c31b1 : (t429 != 0) = false := bne_eq_false_iff_eq.mpr c31
                clear c31
                by_cases c32 : t428 < 1
                · rw [if_pos c32] at H
                  have c32b0 : decide (t428 < 1) = true := decide_eq_true c32
                  clear c32
                  exact absurd (Option.some.inj H) (by decide)
                · rw [if_neg c32] at H
                  have c32b0 : decide (t428 < 1) = false := decide_eq_false c32
                  clear c32
                  have H' := Aside0.mk H
                  clear H
                  obtain ⟨Ao35, co35, eo35⟩ := Kd.R_slice HO_5.out
                  subst eo35
                  go_wp2_with (first | ((with_reducible refine gate_callee (f := 17) rfl ?_); refine goesL_ (some 48) rfl rfl Try.func17 (by kernel_rfl) rfl #[.slice Ao35 t422.length co35] rfl (by (try simp only [List.map_toArray, List.map_cons, List.map_nil]); first | done | rfl | (simp only [List.length_drop, List.length_take]; rfl)) ?_; (with_reducible refine (veils_Count.calls kj18 _ _ t422 t428 t429 _ ?side1 ?side2 A30.out).mono ?_); (case side1 => repeat (first | exact (Kd.R_reads' HO_5.out).2.2 | (with_reducible refine Kd.C_alloc ?_ _) | (with_reducible refine Kd.C_drewN ?_ _) | (with_reducible refine Kd.C_drew ?_))); (case side2 => exact (Kd.R_reads' HO_5.out).2.1); rintro e w36 ⟨rfl, hb⟩; refine ⟨_, rfl, ?_⟩; have n0_ := Aside0.mk (Kd.R_below (by (with_reducible repeat (first | apply Kd.R_alloc | apply Kd.R_drewN | apply Kd.R_drew)); exact HO_5.out) hb); have n1_ := Aside0.mk (below_step (by repeat (first | (with_reducible first | exact HB.out | apply below_alloc | apply pw_below_drewN | apply below_drew1) | exact HB.out)) hb); clear HO_5; clear HB; have HO_5 := n0_; have HB := n1_; clear n0_ n1_; (try clear hb); (try clear hb2); (try clear hk); (try clear hi)))
                  go_meet
                  case rel => exact ⟨_, H', ⟨by have := HJ2.out; have := HJ18.out; first | omega | exact Nat.le_refl _⟩, ⟨by repeat (first | (with_reducible first | exact HB.out | apply below_alloc | apply pw_below_drewN | apply below_drew1) | exact HB.out)⟩⟩
              · rw [if_neg c31] at H
                have c31b0 : (t429 == 0) = false := beq_eq_false_iff_ne.mpr c31
                have c31b1 : (t429 != 0) = true := bne_iff_ne.mpr c31
                exact absurd (Option.some.inj H) (by decide)
       · replace c17 := Bool.eq_false_iff.mpr c17
         subst c17
         have H1 : (clochelaw09_VeilsApart.j2 kj2 l1) = some true := by rw [if_neg (show ¬ (false = true) by decide)] at H; exact H
         clear H
         have H := H1
         clear H1
         have H' := Aside0.mk H
         clear H
         go_wp2
         go_meet
         case rel => exact ⟨_, H', ⟨by have := HJ2.out; first | omega | exact Nat.le_refl _⟩, ⟨by repeat (first | (with_reducible first | exact HB.out | apply below_alloc | apply pw_below_drewN | apply below_drew1) | exact HB.out)⟩⟩
      case rest =>
       clear HC16
       try clear c1
       try clear c2
       try clear p2
       try clear c3
       try clear c5
       try clear p6
       try clear c7
       try clear c12
       try clear c15
       try clear c17
       try clear c19
       try clear c21
       try clear c21b0
       try clear c21b1
       try clear c22
       try clear c22b0
       try clear c22b1
       try clear c24
       try clear c29
       try clear c31
       try clear c31b0
       try clear c31b1
       try clear c32
       try clear c32b0
       try clear p2
       try clear p6
       obtain ⟨kq, HA, HJ15, HB⟩ := hcut
       cases kq with
       | zero => exact absurd HA.out (by simp [clochelaw09_VeilsApart.j2])
       | succ kj15 =>
         have H := HA.out
         clear HA
         simp only [clochelaw09_VeilsApart.j2] at H
         replace H := Option.bind_eq_some_iff.mp H
         obtain ⟨t430, A390, H⟩ := H
         replace H : (if t430 = true then ((veils_Count.f kj15 l1).bind fun bt431 => (if bt431.2 = 0 then ((clochelaw09_crosses.f kj15 l1).bind fun t433 => (if ((bt431.1 == 0) == t433) = true then (if bt431.1 ≥ 0 then ((clochelaw09_alive.f).bind fun t434 => (some t434)) else (some false)) else (some false))) else (some false))) else ((clochelaw09_alive.f).bind fun t435 => (some t435))) = some true := H
         have A39 := Aside0.mk A390
         clear A390
         by_cases c40 : t430 = true
         · subst c40
           have H1 : ((veils_Count.f kj15 l1).bind fun bt431 => (if bt431.2 = 0 then ((clochelaw09_crosses.f kj15 l1).bind fun t433 => (if ((bt431.1 == 0) == t433) = true then (if bt431.1 ≥ 0 then ((clochelaw09_alive.f).bind fun t434 => (some t434)) else (some false)) else (some false))) else (some false))) = some true := by rw [if_pos rfl] at H; exact H
           clear H
           have H := H1
           clear H1
           replace H := Option.bind_eq_some_iff.mp H
           obtain ⟨⟨t431, t432⟩, A410, H⟩ := H
           replace H : (if t432 = 0 then ((clochelaw09_crosses.f kj15 l1).bind fun t433 => (if ((t431 == 0) == t433) = true then (if t431 ≥ 0 then ((clochelaw09_alive.f).bind fun t434 => (some t434)) else (some false)) else (some false))) else (some false)) = some true := H
           have A41 := Aside0.mk A410
           clear A410
           by_cases c42 : t432 = 0
           · rw [if_pos c42] at H
             have c42b0 : (t432 == 0) = true := beq_iff_eq.mpr c42
             have c42b1 : (t432 != 0) = false := bne_eq_false_iff_eq.mpr c42
             clear c42
             replace H := Option.bind_eq_some_iff.mp H
             obtain ⟨t433, A430, H⟩ := H
             replace H : (if ((t431 == 0) == t433) = true then (if t431 ≥ 0 then ((clochelaw09_alive.f).bind fun t434 => (some t434)) else (some false)) else (some false)) = some true := H
             have A43 := Aside0.mk A430
             clear A430
             by_cases c44 : ((t431 == 0) == t433) = true
             · rw [if_pos c44] at H
               have c44b0 : ((t431 == 0) == t433) = true := c44
               (try (have c44b1 : decide ((t431 == 0) = t433) = true := by simpa using c44))
               (try (have c44b2 : ((t431 == 0) == t433) = true := by simpa using c44))
               clear c44
               by_cases c45 : t431 ≥ 0
               · rw [if_pos c45] at H
                 have c45b0 : decide (0 ≤ t431) = true := decide_eq_true c45
                 clear c45
                 replace H := Option.bind_eq_some_iff.mp H
                 obtain ⟨t434, A460, H⟩ := H
                 replace H : (some t434) = some true := H
                 have A46 := Aside0.mk A460
                 clear A460
                 have HT := Option.some.inj H
                 subst HT
                 go_wp2_with (first | ((with_reducible refine gate_callee (f := 26) rfl ?_); refine goesL_ (some 58) rfl rfl Try.func26 (by kernel_rfl) rfl #[.slice A1 l1.length c1] rfl (by (try simp only [List.map_toArray, List.map_cons, List.map_nil]); first | done | rfl | (simp only [List.length_drop, List.length_take]; rfl)) ?_; (with_reducible refine (clocheref09_IsPairing.calls kj15 _ _ l1 true _ ?side1 ?side2 A39.out).mono ?_); (case side1 => repeat (first | exact (Kd.C_below HR1.out HB.out) | (with_reducible refine Kd.C_alloc ?_ _) | (with_reducible refine Kd.C_drewN ?_ _) | (with_reducible refine Kd.C_drew ?_))); (case side2 => exact HC1.out); rintro e w' ⟨rfl, ⟨nd, rfl⟩⟩; refine ⟨_, rfl, ?_⟩) | ((with_reducible refine gate_callee (f := 17) rfl ?_); refine goesL_ (some 63) rfl rfl Try.func17 (by kernel_rfl) rfl #[.slice A1 l1.length c1] rfl (by (try simp only [List.map_toArray, List.map_cons, List.map_nil]); first | done | rfl | (simp only [List.length_drop, List.length_take]; rfl)) ?_; (with_reducible refine (veils_Count.calls kj15 _ _ l1 t431 t432 _ ?side1 ?side2 A41.out).mono ?_); (case side1 => repeat (first | exact (Kd.C_below HR1.out (by repeat (first | (with_reducible first | exact HB.out | apply below_alloc | apply pw_below_drewN | apply below_drew1) | exact HB.out))) | (with_reducible refine Kd.C_alloc ?_ _) | (with_reducible refine Kd.C_drewN ?_ _) | (with_reducible refine Kd.C_drew ?_))); (case side2 => exact HC1.out); rintro e w47 ⟨rfl, hb⟩; refine ⟨_, rfl, ?_⟩; have n0_ := Aside0.mk (below_step (by repeat (first | (with_reducible first | exact HB.out | apply below_alloc | apply pw_below_drewN | apply below_drew1) | exact HB.out)) hb); clear HB; have HB := n0_; clear n0_; (try clear hb); (try clear hb2); (try clear hk); (try clear hi)) | (go_at_call 27; (with_reducible refine (clochelaw09_crosses.calls kj15 _ _ l1 t433 _ ?side1 ?side2 A43.out).mono ?_); (case side1 => repeat (first | exact (Kd.C_below HR1.out HB.out) | (with_reducible refine Kd.C_alloc ?_ _) | (with_reducible refine Kd.C_drewN ?_ _) | (with_reducible refine Kd.C_drew ?_))); (case side2 => exact HC1.out); rintro e w' ⟨rfl, ⟨nd, rfl⟩⟩) | (go_at_call 15; (with_reducible refine (clochelaw09_alive.calls  true _ A46.out).mono ?_); rintro e w48 ⟨rfl, hb⟩; have n0_ := Aside0.mk (below_step (by repeat (first | (with_reducible first | exact HB.out | apply below_alloc | apply pw_below_drewN | apply below_drew1) | exact HB.out)) hb); clear HB; have HB := n0_; clear n0_; (try clear hb); (try clear hb2); (try clear hk); (try clear hi)))
                 go_ret
                 exact ⟨by first | rfl | (simp [errW_none, errW_some] <;> rfl) | (simp [*, errW_none, errW_some] <;> rfl), by repeat (first | (with_reducible first | exact HB.out | apply below_alloc | apply pw_below_drewN | apply below_drew1) | exact HB.out)⟩
               · rw [if_neg c45] at H
                 have c45b0 : decide (0 ≤ t431) = false := decide_eq_false c45
                 clear c45
                 exact absurd (Option.some.inj H) (by decide)
             · rw [if_neg c44] at H
               have c44b0 : ((t431 == 0) == t433) = false := by simpa using c44
               (try (have c44b1 : decide ((t431 == 0) = t433) = false := by simpa using c44))
               (try (have c44b2 : ((t431 == 0) == t433) = false := by simpa using c44))
               (try (have c44b3 : ¬ ((t431 == 0) = t433) := by simpa using c44))
               clear c44
               exact absurd (Option.some.inj H) (by decide)
           · rw [if_neg c42] at H
             have c42b0 : (t432 == 0) = false := beq_eq_false_iff_ne.mpr c42
             have c42b1 : (t432 != 0) = true := bne_iff_ne.mpr c42
             exact absurd (Option.some.inj H) (by decide)
         · replace c40 := Bool.eq_false_iff.mpr c40
           subst c40
           have H1 : ((clochelaw09_alive.f).bind fun t435 => (some t435)) = some true := by rw [if_neg (show ¬ (false = true) by decide)] at H; exact H
           clear H
           have H := H1
           clear H1
           replace H := Option.bind_eq_some_iff.mp H
           obtain ⟨t435, A520, H⟩ := H
           replace H : (some t435) = some true := H
           have A52 := Aside0.mk A520
           clear A520
           have HT := Option.some.inj H
           subst HT
           go_wp2_with (first | ((with_reducible refine gate_callee (f := 26) rfl ?_); refine goesL_ (some 58) rfl rfl Try.func26 (by kernel_rfl) rfl #[.slice A1 l1.length c1] rfl (by (try simp only [List.map_toArray, List.map_cons, List.map_nil]); first | done | rfl | (simp only [List.length_drop, List.length_take]; rfl)) ?_; (with_reducible refine (clocheref09_IsPairing.calls kj15 _ _ l1 false _ ?side1 ?side2 A39.out).mono ?_); (case side1 => repeat (first | exact (Kd.C_below HR1.out HB.out) | (with_reducible refine Kd.C_alloc ?_ _) | (with_reducible refine Kd.C_drewN ?_ _) | (with_reducible refine Kd.C_drew ?_))); (case side2 => exact HC1.out); rintro e w' ⟨rfl, ⟨nd, rfl⟩⟩; refine ⟨_, rfl, ?_⟩) | ((with_reducible refine gate_callee (f := 15) rfl ?_); refine goesL_ (some 60) rfl rfl Try.func15 (by kernel_rfl) rfl #[] rfl (by (try simp only [List.map_toArray, List.map_cons, List.map_nil]); first | done | rfl | (simp only [List.length_drop, List.length_take]; rfl)) ?_; (with_reducible refine (clochelaw09_alive.calls  true _ A52.out).mono ?_); rintro e w53 ⟨rfl, hb⟩; refine ⟨_, rfl, ?_⟩; have n0_ := Aside0.mk (below_step (by repeat (first | (with_reducible first | exact HB.out | apply below_alloc | apply pw_below_drewN | apply below_drew1) | exact HB.out)) hb); clear HB; have HB := n0_; clear n0_; (try clear hb); (try clear hb2); (try clear hk); (try clear hi)))
           go_ret
           exact ⟨by first | rfl | (simp [errW_none, errW_some] <;> rfl) | (simp [*, errW_none, errW_some] <;> rfl), by repeat (first | (with_reducible first | exact HB.out | apply below_alloc | apply pw_below_drewN | apply below_drew1) | exact HB.out)⟩

end Go.Proofs.Ytdinepghommchaa.V

/- What the walk of VeilsApart computes is true for all inputs. -/
namespace Go.Proofs.Ytdinepghommchaa.V
open Go.RowKit Go.Proofs.YtdinepghommchaaW.PrintWords Go.Proofs.YtdinepghommchaaW.PrintLast Go.Proofs.YtdinepghommchaaW.PrintMore
theorem told_mem : ∀ (ts : List (List (List Int))) (ps : List (List Int)), told ts ps = true → ∀ t ∈ ts, ∃ p ∈ ps, pairOf t = some p
 | [], _, _, t, h => by simp at h
 | t :: ts, [], h, _, _ => by simp [told] at h
 | t :: ts, p :: ps, h, u, hu => by
  simp only [told, Bool.and_eq_true, beq_iff_eq] at h
  rcases List.mem_cons.mp hu with rfl | hu
  · exact ⟨p, List.mem_cons_self .., h.1⟩
  · obtain ⟨q, hq, e⟩ := told_mem ts ps h.2 u hu
    exact ⟨q, List.mem_cons_of_mem _ hq, e⟩
theorem many_mem (l : List Int) : ∀ ps, l ∈ ps → 1 ≤ many l ps
 | [], h => by simp at h
 | p :: ps, h => by
  simp only [many]
  split
  · omega
  · rename_i c
    rcases List.mem_cons.mp h with rfl | h
    · exact absurd rfl c
    · exact many_mem l ps h
theorem mem_many (l : List Int) : ∀ ps, many l ps ≠ 0 → l ∈ ps
 | [], h => by simp [many] at h
 | p :: ps, h => by
  simp only [many] at h
  split at h
  · rename_i c; subst c; exact List.mem_cons_self ..
  · exact List.mem_cons_of_mem _ (mem_many l ps h)
theorem pair_veil {t : List (List Int)} (h : Veil t.length t) : ∃ p ∈ pairsOf t.length, pairOf t = some p := by
 have hm := h.mem
 have h1 := h.n1
 have h5 := h.n5
 generalize t.length = n at hm h1 h5
 have hn : n = 1 ∨ n = 2 ∨ n = 3 ∨ n = 4 ∨ n = 5 := by omega
 rcases hn with rfl | rfl | rfl | rfl | rfl
 · rw [veilsOf1] at hm; exact told_mem _ _ pairings1 t hm
 · rw [veilsOf2] at hm; exact told_mem _ _ pairings2 t hm
 · rw [veilsOf3] at hm; exact told_mem _ _ pairings3 t hm
 · rw [veilsOf4] at hm; exact told_mem _ _ pairings4 t hm
 · rw [veilsOf5] at hm; exact told_mem _ _ pairings5 t hm
theorem read_veil {t : List (List Int)} (h : Veil t.length t) : veils_read.f 100 t = some (t, true) := by
 simpa using of_veil read_all h
theorem pairing_abs {A B C : Type} {rd : Option (A × Bool)} {ra : A → Option B} {pa : B → Option C} {t : A} {hh : B} {p : C} {z : Option (C × Int)} (hr : rd = some (t, true)) (e1 : ra t = some hh) (e2 : pa hh = some p) :
 (rd.bind fun bt => if bt.2 = true then (ra bt.1).bind fun x => (pa x).bind fun y => some (y, 0) else z) = some (p, 0) := by
 subst hr
 simp [e1, e2]
theorem pairing_of {K : Nat} {t hh : List (List Int)} {p : List Int} (hr : veils_read.f K t = some (t, true)) (e1 : veils_raised.f t = some hh) (e2 : veils_heights_pairing.f K hh = some p) : veils_Pairing.f K t = some (p, 0) :=
 pairing_abs hr e1 e2
/-- The pairing of a veil, as the program's Pairing tells it. -/
theorem pairing_veil {t : List (List Int)} (h : Veil t.length t) {K : Nat} (hK : 1000 ≤ K) : ∃ p ∈ pairsOf t.length, veils_Pairing.f K t = some (p, 0) := by
 obtain ⟨p, hp, e⟩ := pair_veil h
 unfold pairOf at e
 obtain ⟨hh, e1, e2⟩ := Option.bind_eq_some_iff.mp e
 exact ⟨p, hp, pairing_of (lift (fun k => veils_read.mono t k) (read_veil h) (Nat.le_trans (by decide) hK)) e1 (lift (fun k => veils_heights_pairing.mono hh k) e2 hK)⟩
theorem pairs_good {n : Nat} {p : List Int} (h : p ∈ pairsOf n) : p.length = 2 * n ∧ n ≤ 5 ∧ clocheref09_IsPairing.f 100 p = some true ∧ clochelaw09_crosses.f 200 p = some false := by
 have hn : n ≤ 5 ∧ pairGood n p = true := by
   match n, h with
   | 0, h => simp [pairsOf] at h
   | 1, h => exact ⟨by omega, List.all_eq_true.mp pairs_good1 p h⟩
   | 2, h => exact ⟨by omega, List.all_eq_true.mp pairs_good2 p h⟩
   | 3, h => exact ⟨by omega, List.all_eq_true.mp pairs_good3 p h⟩
   | 4, h => exact ⟨by omega, List.all_eq_true.mp pairs_good4 p h⟩
   | 5, h => exact ⟨by omega, List.all_eq_true.mp pairs_good5 p h⟩
   | n + 6, h => simp [pairsOf] at h
 have h2 := hn.2
 simp only [pairGood, Bool.and_eq_true, decide_eq_true_eq, beq_iff_eq] at h2
 exact ⟨h2.1.1, hn.1, h2.1.2, h2.2⟩
theorem apart_pair {l : List Int} (h : Pr l) : ∃ b, clochelaw09_crosses.f 200 l = some b ∧ (many l (pairsOf (l.length / 2)) = 0 ↔ b = true) := by
 have hp := of_pairing apart_pairings h
 simp only [apartP, Bool.or_eq_true, Bool.and_eq_true, beq_iff_eq, decide_eq_true_eq] at hp
 rcases hp with hp | ⟨hp, hm⟩
 · refine ⟨true, hp, by simp, fun _ => ?_⟩
   by_cases c : many l (pairsOf (l.length / 2)) = 0
   · exact c
   · have := (pairs_good (mem_many _ _ c)).2.2.2
     rw [hp] at this
     cases this
 · refine ⟨false, hp, fun h0 => ?_, fun hh => by cases hh⟩
   have := many_mem _ _ hm
   omega
theorem apart_j2 (k : Nat) (hk : 500 ≤ k) (l : List Int) (hl : l.length ≤ 40) : clochelaw09_VeilsApart.j2 (k + 1) l = some true := by
 rw [clochelaw09_VeilsApart.j2]
 rcases isPairing_spec l with ⟨e, hp⟩ | ⟨e, hp⟩
 · rw [lift (fun k => clocheref09_IsPairing.mono l k) e (show 100 ≤ k by omega)]
   obtain ⟨b, hb, hc⟩ := apart_pair hp
   simp only [Option.bind_some, if_true]
   rw [lift (fun k => veils_Count.mono l k) ((count_spec l (by omega)).1 hp) (show 100 ≤ k by omega)]
   simp only [Option.bind_some, if_true]
   rw [lift (fun k => clochelaw09_crosses.mono l k) hb (show 200 ≤ k by omega)]
   simp only [Option.bind_some]
   have hx : (((((many l (pairsOf (l.length / 2)) : Nat) : Int) == 0) == b) = true) := by
    cases b with
    | true => have := hc.mpr rfl; simp [this]
    | false =>
     have : many l (pairsOf (l.length / 2)) ≠ 0 := fun h0 => by simpa using hc.mp h0
     simp [this]
   rw [if_pos hx, if_pos (by omega)]
   rfl
 · rw [lift (fun k => clocheref09_IsPairing.mono l k) e (show 100 ≤ k by omega)]
   rfl
theorem apart_abs {p : List Int} {n : Int} {e : Bool} {P : Option (List Int × Int)} {I C : List Int → Option Bool} {j1 : List Int → Bool → Option Bool} {j2 : Option Bool} {V : Option Bool}
 (hV : V = some e) (hj2 : j2 = some true) (hP : e = true → P = some (p, 0)) (hn : e = true → (p.length : Int) = n) (hI : e = true → I p = some true) (hC : e = true → C p = some false) (hj : e = true → j1 p false = some true) :
 (V.bind fun t421 => if t421 = true then (P.bind fun bt422 => if bt422.2 = 0 then (if (bt422.1.length : Int) = n then ((I bt422.1).bind fun t426 => if t426 = true then ((C bt422.1).bind fun t427 => j1 bt422.1 t427) else j1 bt422.1 true) else j1 bt422.1 true) else j1 bt422.1 true) else j2) = some true := by
 subst hV
 cases e with
 | false => simpa using hj2
 | true => simp [hP rfl, hn rfl, hI rfl, hC rfl, hj rfl]
theorem j1_abs {m : Int} {N : Option (Int × Int)} {j2 : Option Bool} (hN : N = some (m, 0)) (hm : ¬ m < 1) (hj : j2 = some true) :
 (N.bind fun bt428 => if bt428.2 = 0 then (if bt428.1 < 1 then (some false) else j2) else some false) = some true := by
 subst hN
 simp [hm, hj]
theorem apart_go (k : Nat) (hk : 1000 ≤ k) (l0 : List (List Int)) (l1 : List Int) (hl : l1.length ≤ 40) : clochelaw09_VeilsApart.j0 (k + 3) l0 l1 false = some true := by
 rw [clochelaw09_VeilsApart.j0, if_neg (by decide)]
 rcases isVeil_spec l0 with e | ⟨e, hv⟩
 · exact apart_abs (p := []) (e := false) (n := wrap64 (2 * (l0.length : Int))) (lift (fun k => clocheref09_IsVeil.mono l0 k) e (show 100 ≤ k + 2 by omega)) (apart_j2 (k + 1) (by omega) l1 hl) (fun h => by cases h) (fun h => by cases h) (fun h => by cases h) (fun h => by cases h) (fun h => by cases h)
 · obtain ⟨p, hp, hpe⟩ := pairing_veil hv (show 1000 ≤ k + 2 by omega)
   obtain ⟨g1, g2, g3, g4⟩ := pairs_good hp
   have hPr : Pr p := by
    rcases isPairing_spec p with ⟨_, h⟩ | ⟨e', _⟩
    · exact h
    · rw [g3] at e'; cases e'
   have hm := many_mem p (pairsOf (p.length / 2)) (by rw [g1, show 2 * l0.length / 2 = l0.length by omega]; exact hp)
   have hj1 : clochelaw09_VeilsApart.j1 (k + 2) l1 p false = some true := by
    rw [clochelaw09_VeilsApart.j1, if_neg (by decide)]
    exact j1_abs (lift (fun k => veils_Count.mono p k) ((count_spec p (by omega)).1 hPr) (show 100 ≤ k + 1 by omega)) (by omega) (apart_j2 k (by omega) l1 hl)
   exact apart_abs (p := p) (e := true) (n := wrap64 (2 * (l0.length : Int))) (lift (fun k => clocheref09_IsVeil.mono l0 k) e (show 100 ≤ k + 2 by omega)) (apart_j2 (k + 1) (by omega) l1 hl) (fun _ => hpe) (fun _ => by rw [wr _ (by omega)]; omega)
    (fun _ => lift (fun k => clocheref09_IsPairing.mono p k) g3 (show 100 ≤ k + 2 by omega)) (fun _ => lift (fun k => clochelaw09_crosses.mono p k) g4 (show 200 ≤ k + 2 by omega)) (fun _ => hj1)
theorem apart_all (k : Nat) (hk : 1000 ≤ k) (l0 : List (List Int)) (l1 : List Int) : clochelaw09_VeilsApart.f (k + 3) l0 l1 = some true := by
 unfold clochelaw09_VeilsApart.f
 obtain ⟨b, hb⟩ := few_spec [l0] (by simp)
 rw [lift (fun k => clochelaw09_few.mono [l0] k) hb (show 500 ≤ k + 3 by omega)]
 simp only [Option.bind_some]
 have hT : clochelaw09_VeilsApart.j0 (k + 3) l0 l1 true = some true := by rw [clochelaw09_VeilsApart.j0, if_pos rfl]; rfl
 by_cases cb : b = true
 · rw [if_pos cb]
   by_cases c40 : (l1.length : Int) > 40
   · rw [decide_eq_true c40]; exact hT
   · rw [decide_eq_false c40]; exact apart_go k hk l0 l1 (by omega)
 · rw [if_neg cb]; exact hT
theorem apart_true (l0 : List (List Int)) (l1 : List Int) : clochelaw09_VeilsApart.f (1007 + 3) l0 l1 = some true := apart_all 1007 (by decide) l0 l1
end Go.Proofs.Ytdinepghommchaa.V

/- An argument that is a table of numbers, or a row of numbers, opened as the words' rows that can be read. -/
namespace Go.Proofs.Ytdinepghommchaa.V
open Go.RowKit Go.Proofs.YtdinepghommchaaW.PrintWords Go.Proofs.YtdinepghommchaaW.PrintLast Go.Proofs.YtdinepghommchaaW.PrintMore
open Go.ChangeShapes Go.WideShapes Go.Deep Go.ChangeShapes
theorem row_reads {W : World} {A : Option Addr} {L C : Nat} {Z : List Int} (h1 : L ≤ C) (h2 : C ≤ maxLen) (h3 : Z.length = C) (h4 : A = none → C = 0)
 (h5 : ∀ a', A = some a' → ∀ c, c < C → W.cell? (a'.add c) = some (.int .i64 (Z.getD c 0))) :
 (Z.take L).length = L ∧ Kd.C (Kd.int .i64) W A L (Z.take L) := by
 have hl : (Z.take L).length = L := by rw [List.length_take]; omega
 have hm : (maxLen : Nat) = 9223372036854775807 := by decide
 refine ⟨hl, hl, by omega, fun hn => ?_⟩
 cases A with
 | none => have := h4 rfl; omega
 | some a' =>
  refine ⟨a', rfl, fun j p hj => ⟨[.int .i64 p], rfl, rfl, fun i u hu => ?_⟩⟩
  cases i with
  | succ i => simp at hu
  | zero =>
   simp at hu
   subst hu
   have hj' : j < L := by have := (List.getElem?_eq_some_iff.mp hj).1; omega
   have e : Z.getD j 0 = p := by
    rw [List.getElem?_take_of_lt hj'] at hj
    rw [List.getD_eq_getElem?_getD, hj]; rfl
   have := h5 a' rfl j (by omega)
   rw [e] at this
   show W.cell? (a'.add (j * 1 + 0)) = _
   rw [Nat.mul_one, Nat.add_zero]; exact this
theorem open_row {H : Type} {enc : TypeId × Value → H} {w : World} {base : Nat} {held : Bool} {fuel : Nat} {a : Option Addr} {len cap : Nat} {cs : List Value} {x : DataW H × List MemPlace}
 (hcs : cs = [.slice a len cap]) (h : DataW.trod enc Try.prog w base (fun _ => true) held fuel 28 cs = some x) :
 ∃ l : List Int, len = l.length ∧ Kd.C (Kd.int .i64) w a l.length l ∧ l.length ≤ cap := by
 subst hcs
 rcases open_ints Try.underlying28 Try.underlying3 (by kernel_rfl) h with ⟨hcs, _⟩ | ⟨x', l, c, zs, hcs, _, hl, hm, hz, _, hcell, hwz⟩
 · simp at hcs
   obtain ⟨rfl, rfl, rfl⟩ := hcs
   exact ⟨[], rfl, Kd.C_nil _ _, Nat.le_refl _⟩
 · simp at hcs
   obtain ⟨rfl, rfl, rfl⟩ := hcs
   have hz' : zs.length = cap := by simpa using hz
   obtain ⟨e, hC⟩ := row_reads (W := w) (A := some x') (L := len) (C := cap) (Z := zs) hl hm hz' (fun h => by cases h) (fun a' ha c hc => by cases ha; exact hcell c (by omega))
   exact ⟨zs.take len, e.symm, by rw [e]; exact hC, by omega⟩
theorem open_tab {H : Type} {enc : TypeId × Value → H} {w : World} {base : Nat} {held : Bool} {fuel : Nat} {a : Option Addr} {len cap : Nat} {cs : List Value} {x : DataW H × List MemPlace}
 (hcs : cs = [.slice a len cap]) (h : DataW.trod enc Try.prog w base (fun _ => true) held fuel 27 cs = some x) :
 ∃ l : List (List Int), len = l.length ∧ Kd.C (Kd.slice 3 (Kd.int .i64)) w a l.length l ∧ l.length ≤ cap := by
 subst hcs
 rcases open_int_rows Try.underlying27 Try.underlying28 Try.underlying3 (by kernel_rfl) (by kernel_rfl) h with ⟨hcs, _⟩ | ⟨x', l, c, A, L, C, Z, hcs, _, hl, hm, _, hrows⟩
 · simp at hcs
   obtain ⟨rfl, rfl, rfl⟩ := hcs
   exact ⟨[], rfl, Kd.C_nil _ _, Nat.le_refl _⟩
 · simp at hcs
   obtain ⟨rfl, rfl, rfl⟩ := hcs
   have hmx : (maxLen : Nat) = 9223372036854775807 := by decide
   have e : ((List.range len).map fun r => (Z r).take (L r)).length = len := by simp
   refine ⟨(List.range len).map fun r => (Z r).take (L r), e.symm, ?_, by omega⟩
   refine ⟨rfl, by omega, fun hn => ⟨x', rfl, fun j p hj => ?_⟩⟩
   have hj' : j < len := by have := (List.getElem?_eq_some_iff.mp hj).1; omega
   rw [List.getElem?_map, List.getElem?_range hj'] at hj
   simp at hj
   subst hj
   obtain ⟨hcell, h1, h2, h3, _, h4, h5⟩ := hrows j (by omega)
   obtain ⟨e', hC⟩ := row_reads (W := w) (A := A j) h1 h2 h3 h4 (fun a' ha c hc => (h5 a' ha).2 c hc)
   refine ⟨[.slice (A j) (L j) (C j)], rfl, ⟨A j, C j, by rw [e'], by omega, by rw [e']; exact hC⟩, fun i u hu => ?_⟩
   cases i with
   | succ i => simp at hu
   | zero =>
    simp at hu
    subst hu
    show w.cell? (x'.add (j * 1 + 0)) = _
    rw [Nat.mul_one, Nat.add_zero]; exact hcell
end Go.Proofs.Ytdinepghommchaa.V
