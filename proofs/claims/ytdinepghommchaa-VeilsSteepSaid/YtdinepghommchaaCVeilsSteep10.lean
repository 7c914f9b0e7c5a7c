/- The walks, their words and the pure laws under the claim of VeilsSteep, part: Vf44, Vf45. -/
import Derived.Test.YtdinepghommchaaCVeilsSteep1
import Derived.Test.YtdinepghommchaaCVeilsSteep3
-- Written by a program of this session over the kit's printer: wip/gp.py.
namespace Go.Proofs.Ytdinepghommchaa.V
open Go.RowKit Go.Proofs.YtdinepghommchaaW.PrintWords Go.Proofs.YtdinepghommchaaW.PrintLast Go.Proofs.YtdinepghommchaaW.PrintMore
attribute [local go_sem] max2_int min2_int max_two min_two max_three min_three max_four min_four   -- for this text's walks alone
set_option linter.unusedVariables false
set_option linter.unusedSimpArgs false

/-! ### clochelaw09_cross: function 44 -/
def clochelaw09_cross.f  : Option ((List (List Int))) := some (([(([0, 1, 0] : List Int)), (([1, (-1), 1] : List Int)), (([0, 1, 0] : List Int))] : List (List Int)))
set_option maxHeartbeats 8000000 in
set_option maxRecDepth 100000 in
theorem clochelaw09_cross.calls  (r : List (List Int)) (w : World) (h : clochelaw09_cross.f  = some r) :
 Calls Try.prog 44 #[] w fun e w' => ∃ v0_ : Value, e = .returned (v0_) ∧ Kd.N (Kd.slice 3 (Kd.int .i64)) 28 w' w.heap.size (fun k_ => (w.heap.size ≤ k_)) v0_ r ∧ Below w.heap.size w w' := by
 have HB := Aside0.mk (Below.refl w.heap.size w)
 have H : (some (([(([0, 1, 0] : List Int)), (([1, (-1), 1] : List Int)), (([0, 1, 0] : List Int))] : List (List Int)))) = some r := h
 clear h
 obtain ⟨y154, hy154⟩ : ∃ y_ : List Int, y_ = (([0, 1, 0] : List Int)) := ⟨_, rfl⟩
 replace H : (some (([y154, (([1, (-1), 1] : List Int)), (([0, 1, 0] : List Int))] : List (List Int)))) = some r := by first | (rw [hy154]; with_reducible exact H) | (have H2_ := (Option.bind_some _ _).symm.trans H; rw [hy154]; with_reducible exact H2_) | (have H2_ := (Option.bind_some _ _).symm.trans H; with_reducible exact H2_) | with_reducible exact H | (rw [hy154]; exact H) | exact H
 have Ny154 := Aside0.mk hy154
 clear hy154
 obtain ⟨y157, hy157⟩ : ∃ y_ : List Int, y_ = (([1, (-1), 1] : List Int)) := ⟨_, rfl⟩
 replace H : (some (([y154, y157, (([0, 1, 0] : List Int))] : List (List Int)))) = some r := by first | (rw [hy157]; with_reducible exact H) | (have H2_ := (Option.bind_some _ _).symm.trans H; rw [hy157]; with_reducible exact H2_) | (have H2_ := (Option.bind_some _ _).symm.trans H; with_reducible exact H2_) | with_reducible exact H | (rw [hy157]; exact H) | exact H
 have Ny157 := Aside0.mk hy157
 clear hy157
 obtain ⟨y160, hy160⟩ : ∃ y_ : List Int, y_ = (([0, 1, 0] : List Int)) := ⟨_, rfl⟩
 replace H : (some (([y154, y157, y160] : List (List Int)))) = some r := by first | (rw [hy160]; with_reducible exact H) | (have H2_ := (Option.bind_some _ _).symm.trans H; rw [hy160]; with_reducible exact H2_) | (have H2_ := (Option.bind_some _ _).symm.trans H; with_reducible exact H2_) | with_reducible exact H | (rw [hy160]; exact H) | exact H
 have Ny160 := Aside0.mk hy160
 clear hy160
 obtain ⟨y163, hy163⟩ : ∃ y_ : List (List Int), y_ = (([y154, y157, y160] : List (List Int))) := ⟨_, rfl⟩
 replace H : (some y163) = some r := by first | (rw [hy163]; with_reducible exact H) | (have H2_ := (Option.bind_some _ _).symm.trans H; rw [hy163]; with_reducible exact H2_) | (have H2_ := (Option.bind_some _ _).symm.trans H; with_reducible exact H2_) | with_reducible exact H | (rw [hy163]; exact H) | exact H
 have Ny163 := Aside0.mk hy163
 clear hy163
 obtain rfl := Option.some.inj H
 go_enter Try.func44, Try.ntmps44
 go_wp2_with (first | ((with_reducible refine gate_dst (N := 1) rfl ?_); refine Kd.R_lit (Kd.int .i64) _ 3 ?hg (N := 1) ?hd (xs := ([0, 1, 0] : List Int)) (inner := [.int .i64 0, .int .i64 1, .int .i64 0]) (ok := fun _ => True) (okp := fun _ => True) ?hr ?hp (fun _ hk => hk) trivial (Below.refl _ _) (Nat.le_refl _) (by simp) ?_; (case hd => rfl); (case hg => rfl); (case hr => first | (go_simp; done) | (go_simp; rfl)); (case hp => exact (Reps.one (show Kd.M (Kd.int .i64) _ _ _ 0 [.int .i64 0] from rfl) (Reps.one (show Kd.M (Kd.int .i64) _ _ _ 1 [.int .i64 1] from rfl) (Reps.one (show Kd.M (Kd.int .i64) _ _ _ 0 [.int .i64 0] from rfl) (Reps.none _ _))))); intro v155 w1 ho2 hb hg_ hnew_; clear hg_ hnew_; (first | rw [← Ny154.out] at ho2 | (simp only [Int.reduceToNat] at ho2; rw [← Ny154.out] at ho2)); have n0_ := Aside0.mk (Kd.R_lower (Kd.R_newM (M := fun k_ => (w.heap.size ≤ k_)) ho2 (below_size (bel_)) (fun k_ h_ => h_)) (below_size (bel_))); have n1_ := Aside0.mk (below_step (bel_) hb); clear HB; have HO156 := n0_; have HB := n1_; clear n0_ n1_; clear hb ho2) | ((with_reducible refine gate_dst (N := 2) rfl ?_); refine Kd.R_lit (Kd.int .i64) _ 3 ?hg (N := 2) ?hd (xs := ([1, (-1), 1] : List Int)) (inner := [.int .i64 1, .int .i64 (-1), .int .i64 1]) (ok := fun _ => True) (okp := fun _ => True) ?hr ?hp (fun _ hk => hk) trivial (Below.refl _ _) (Nat.le_refl _) (by simp) ?_; (case hd => rfl); (case hg => rfl); (case hr => first | (go_simp; done) | (go_simp; rfl)); (case hp => exact (Reps.one (show Kd.M (Kd.int .i64) _ _ _ 1 [.int .i64 1] from rfl) (Reps.one (show Kd.M (Kd.int .i64) _ _ _ (-1) [.int .i64 (-1)] from rfl) (Reps.one (show Kd.M (Kd.int .i64) _ _ _ 1 [.int .i64 1] from rfl) (Reps.none _ _))))); intro v158 w3 ho4 hb hg_ hnew_; clear hg_ hnew_; (first | rw [← Ny157.out] at ho4 | (simp only [Int.reduceToNat] at ho4; rw [← Ny157.out] at ho4)); have n0_ := Aside0.mk (Kd.R_elder' (nR_ HO156.out) (Kd.R_base ho4) hb); have n1_ := Aside0.mk (Kd.R_lower (Kd.R_new' (Kd.R_newM (M := fun k_ => (w.heap.size ≤ k_)) ho4 (below_size (bel_)) (fun k_ h_ => h_)) (Kd.R_lt (nR_ HO156.out))) (below_size (bel_))); have n2_ := Aside0.mk (below_step (bel_) hb); clear HO156; clear HB; have HO156 := n0_; have HO159 := n1_; have HB := n2_; clear n0_ n1_ n2_; clear hb ho4) | ((with_reducible refine gate_dst (N := 3) rfl ?_); refine Kd.R_lit (Kd.int .i64) _ 3 ?hg (N := 3) ?hd (xs := ([0, 1, 0] : List Int)) (inner := [.int .i64 0, .int .i64 1, .int .i64 0]) (ok := fun _ => True) (okp := fun _ => True) ?hr ?hp (fun _ hk => hk) trivial (Below.refl _ _) (Nat.le_refl _) (by simp) ?_; (case hd => rfl); (case hg => rfl); (case hr => first | (go_simp; done) | (go_simp; rfl)); (case hp => exact (Reps.one (show Kd.M (Kd.int .i64) _ _ _ 0 [.int .i64 0] from rfl) (Reps.one (show Kd.M (Kd.int .i64) _ _ _ 1 [.int .i64 1] from rfl) (Reps.one (show Kd.M (Kd.int .i64) _ _ _ 0 [.int .i64 0] from rfl) (Reps.none _ _))))); intro v161 w5 ho6 hb hg_ hnew_; clear hg_ hnew_; (first | rw [← Ny160.out] at ho6 | (simp only [Int.reduceToNat] at ho6; rw [← Ny160.out] at ho6)); have n0_ := Aside0.mk (Kd.R_elder' (nR_ HO156.out) (Kd.R_base ho6) hb); have n1_ := Aside0.mk (Kd.R_elder' (nR_ HO159.out) (Kd.R_base ho6) hb); have n2_ := Aside0.mk (Kd.R_lower (Kd.R_new' (Kd.R_new' (Kd.R_newM (M := fun k_ => (w.heap.size ≤ k_)) ho6 (below_size (bel_)) (fun k_ h_ => h_)) (Kd.R_lt (nR_ HO156.out))) (Kd.R_lt (nR_ HO159.out))) (below_size (bel_))); have n3_ := Aside0.mk (below_step (bel_) hb); clear HO156; clear HO159; clear HB; have HO156 := n0_; have HO159 := n1_; have HO162 := n2_; have HB := n3_; clear n0_ n1_ n2_ n3_; clear hb ho6; obtain ⟨Ao7, co7, eo7⟩ := Kd.R_slice HO156.out; subst eo7; obtain ⟨Ao8, co8, eo8⟩ := Kd.R_slice HO159.out; subst eo8; obtain ⟨Ao9, co9, eo9⟩ := Kd.R_slice HO162.out; subst eo9) | ((with_reducible refine gate_dst (N := 4) rfl ?_); refine Kd.N_lit (Kd.slice 3 (Kd.int .i64)) _ 28 ?hg (N' := 4) ?hd (xs := ([y154, y157, y160] : List (List Int))) (inner := [.slice Ao7 y154.length co7, .slice Ao8 y157.length co8, .slice Ao9 y160.length co9]) (ok := (fun k_ => (w.heap.size ≤ k_))) (okp := (fun k_ => (w.heap.size ≤ k_))) ?hr ?hp (fun _ hk => hk) ((show ∀ k_, w5.heap.size ≤ k_ → (fun k_ => (w.heap.size ≤ k_)) k_ from fun k_ hk => (Nat.le_trans (below_size (bel_)) hk)) _ (Nat.le_refl _)) (Below.refl _ _) (Nat.le_refl _) (by simp) ?_; (case hd => rfl); (case hg => rfl); (case hr => first | (go_simp; done) | (go_simp; rfl)); (case hp => exact (Reps.one (show Kd.FK (Kd.slice 3 (Kd.int .i64)) _ _ y154 [.slice Ao7 y154.length co7] from (Kd.FK_slice_mk (Kd.R_reads' (Kd.R_mono (ok' := (fun k_ => (w.heap.size ≤ k_))) (HO156.out) (fun k_ hk => hk.1.1.1))).2.1 (Kd.R_F (Kd.R_mono (ok' := (fun k_ => (w.heap.size ≤ k_))) (HO156.out) (fun k_ hk => hk.1.1.1))))) (Reps.one (show Kd.FK (Kd.slice 3 (Kd.int .i64)) _ _ y157 [.slice Ao8 y157.length co8] from (Kd.FK_slice_mk (Kd.R_reads' (Kd.R_mono (ok' := (fun k_ => (w.heap.size ≤ k_))) (HO159.out) (fun k_ hk => hk.1.1.1))).2.1 (Kd.R_F (Kd.R_mono (ok' := (fun k_ => (w.heap.size ≤ k_))) (HO159.out) (fun k_ hk => hk.1.1.1))))) (Reps.one (show Kd.FK (Kd.slice 3 (Kd.int .i64)) _ _ y160 [.slice Ao9 y160.length co9] from (Kd.FK_slice_mk (Kd.R_reads' (Kd.R_mono (ok' := (fun k_ => (w.heap.size ≤ k_))) (HO162.out) (fun k_ hk => hk.1.1.1))).2.1 (Kd.R_F (Kd.R_mono (ok' := (fun k_ => (w.heap.size ≤ k_))) (HO162.out) (fun k_ hk => hk.1.1.1))))) (Reps.none _ _))))); intro v164 w10 ho11 hb hg_ hnew_; clear hg_ hnew_; (first | rw [← Ny163.out] at ho11 | (simp only [Int.reduceToNat] at ho11; rw [← Ny163.out] at ho11)); have n0_ := Aside0.mk (Kd.N_lower ho11 (below_size (bel_))); have n1_ := Aside0.mk (below_step (bel_) hb); clear HB; clear HO156; clear HO159; clear HO162; have HO165 := n0_; have HB := n1_; clear n0_ n1_; clear hb ho11))
 go_ret
 exact ⟨_, er_, by (with_reducible repeat (first | apply Kd.N_alloc | apply Kd.N_drewN | apply Kd.N_drew)); exact HO165.out, bel_⟩

end Go.Proofs.Ytdinepghommchaa.V

-- Written by a program of this session over the kit's printer: wip/gp.py.
namespace Go.Proofs.Ytdinepghommchaa.V
open Go.RowKit Go.Proofs.YtdinepghommchaaW.PrintWords Go.Proofs.YtdinepghommchaaW.PrintLast Go.Proofs.YtdinepghommchaaW.PrintMore
attribute [local go_sem] max2_int min2_int max_two min_two max_three min_three max_four min_four   -- for this text's walks alone
set_option linter.unusedVariables false
set_option linter.unusedSimpArgs false

/-! ### veils_Minus: function 45 -/
mutual
def veils_Minus.l0 : Nat → List (List Int) → Int → Int → List (List Int) → Int → Int → Option (Int × Int × Int)
 | 0, _, _, _, _, _, _ => none
 | k + 1, x5, x7, x8, x20, x21, x22 => if x22 < x21 then (if 0 ≤ x22 then (if x22 < (x20.length : Int) then (veils_Minus.l1 k x5 x7 x8 x22 x20 x21 x22 (rd_L1 x20 x22) ((rd_L1 x20 x22).length : Int) 0) else (none)) else (none)) else (some (x7, x8, 0))
def veils_Minus.l1 : Nat → List (List Int) → Int → Int → Int → List (List Int) → Int → Int → List Int → Int → Int → Option (Int × Int × Int)
 | 0, _, _, _, _, _, _, _, _, _, _ => none
 | k + 1, x5, x7, x8, x9, x20, x21, x22, x27, x28, x29 => if x29 < x28 then (if 0 ≤ x29 then (if x29 < (x27.length : Int) then (if (rd x27 x29) < 0 then ((veils_veil_sum.f k x5 (x5.length : Int) x29).bind fun t172 => ((veils_veil_sum.f k x5 (wrap64 (x9 + 1)) x29).bind fun t173 => (veils_Minus.l1 k x5 (wrap64 (x7 + 1)) (wrap64 (x8 + (wrap64 ((rd x27 x29) * (wrap64 (t172 - t173)))))) x9 x20 x21 x22 x27 x28 (wrap64 (x29 + 1))))) else ((veils_veil_sum.f k x5 (x5.length : Int) x29).bind fun t174 => ((veils_veil_sum.f k x5 (wrap64 (x9 + 1)) x29).bind fun t175 => (veils_Minus.l1 k x5 x7 (wrap64 (x8 + (wrap64 ((rd x27 x29) * (wrap64 (t174 - t175)))))) x9 x20 x21 x22 x27 x28 (wrap64 (x29 + 1)))))) else (none)) else (none)) else (veils_Minus.l0 k x5 x7 x8 x20 x21 (wrap64 (x22 + 1)))
end
def veils_Minus.f (k : Nat) (l0 : List (List Int)) : Option (Int × Int × Int) := (veils_read.f k l0).bind fun bt166 => (if bt166.2 = true then (veils_Minus.l0 k bt166.1 0 0 bt166.1 (bt166.1.length : Int) 0) else (some (0, 0, 2)))
set_option maxHeartbeats 8000000 in
set_option maxRecDepth 100000 in
theorem veils_Minus.calls (k : Nat) (A0 : Option Addr) (c0 : Nat) (l0 : List (List Int)) (r1 : Int) (r2 : Int) (r3 : Int) (w : World) (hr0 : Kd.C (Kd.slice 3 (Kd.int .i64)) w A0 l0.length l0) (hc0 : l0.length ≤ c0) (h : veils_Minus.f k l0 = some (r1, r2, r3)) :
 Calls Try.prog 45 #[.slice A0 l0.length c0] w fun e w' => e = .returned (.tuple #[.int .i64 r1, .int .i64 r2, .int .i64 r3]) ∧ Below w.heap.size w w' := by
 have HR0 := Aside0.mk hr0
 have HC0 := Aside0.mk hc0
 clear hr0 hc0
 have HB := Aside0.mk (Below.refl w.heap.size w)
 have H : ((veils_read.f k l0).bind fun bt166 => (if bt166.2 = true then (veils_Minus.l0 k bt166.1 0 0 bt166.1 (bt166.1.length : Int) 0) else (some (0, 0, 2)))) = some (r1, r2, r3) := h
 clear h
 replace H := Option.bind_eq_some_iff.mp H
 obtain ⟨⟨t166, t169⟩, A20, H⟩ := H
 replace H : (if t169 = true then (veils_Minus.l0 k t166 0 0 t166 (t166.length : Int) 0) else (some (0, 0, 2))) = some (r1, r2, r3) := H
 have A2 := Aside0.mk A20
 clear A20
 by_cases c3 : t169 = true
 · subst c3
   have H1 : (veils_Minus.l0 k t166 0 0 t166 (t166.length : Int) 0) = some (r1, r2, r3) := by rw [if_pos rfl] at H; exact H
   clear H
   have H := H1
   clear H1
   have H' := Aside0.mk H
   clear H
   go_enter Try.func45, Try.ntmps45
   go_wp2_with (first | ((with_reducible refine gate_callee (f := 51) rfl ?_); refine goesL_ (some 15) rfl rfl Try.func51 (by kernel_rfl) rfl #[.slice A0 l0.length c0] rfl ar_ ?_; (with_reducible refine (veils_read.calls k (fun k_ => k_ < w.heap.size) _ _ l0 t166 true _ ?side1 A2.out).mono ?_); (case side1 => exact Kd.V_mk HC0.out (Kd.F_below (Kd.C_F (Kd.heap_slice 3 (Kd.heap_int .i64)) HR0.out) (bel_))); rintro e w4 ⟨v167, rfl, ho0, hb⟩; refine ⟨_, rfl, ?_⟩; have n0_ := Aside0.mk (Kd.V_lower (Kd.V_mono (ok' := fun k_ => True) ho0 (fun k_ hk_ => trivial)) (below_size (bel_))); have n1_ := Aside0.mk (below_step (bel_) hb); clear HB; have HO168 := n0_; have HB := n1_; clear n0_ n1_; (try clear hb); (try clear hb2); (try clear hk); (try clear hi); (try clear ho0); obtain ⟨Ao5, co5, eo5⟩ := Kd.V_slice HO168.out; subst eo5))
   go_loopg [7, 8, 22] k (fun kq v7 v8 v22 w' => ∃ (x7_1 : Int) (x8_1 : Int) (x22_1 : Int), v7 = .int .i64 x7_1 ∧ v8 = .int .i64 x8_1 ∧ v22 = .int .i64 x22_1 ∧ Aside0 (veils_Minus.l0 kq t166 x7_1 x8_1 t166 (t166.length : Int) x22_1 = some (r1, r2, r3)) ∧ Aside0 (kq ≤ k) ∧ Aside0 (Kd.V (Kd.slice 3 (Kd.int .i64)) 28 w' w.heap.size (fun _ => True) (.slice Ao5 t166.length co5) t166) ∧ Aside0 (Kd.V (Kd.slice 3 (Kd.int .i64)) 28 w' w.heap.size (fun _ => True) (.slice Ao5 t166.length co5) t166) ∧ Aside0 (Below w.heap.size w w'))
   case atStart => exact ⟨(0), (0), (0), rf_, rf_, rf_, H', ⟨Nat.le_refl _⟩, ⟨nV_ HO168.out⟩, ⟨nV_ HO168.out⟩, ⟨bel_⟩⟩
   case round =>
    clear H'
    try clear p2
    try clear c3
    try clear c4
    try clear c5
    obtain ⟨x7_1, x8_1, x22_1, rfl, rfl, rfl, HA, HK1, HO_5, HO_20, HB⟩ := hrel
    cases gk with
    | zero => exact absurd HA.out (by simp [veils_Minus.l0])
    | succ k1 =>
     have H := HA.out
     clear HA
     simp only [veils_Minus.l0] at H
     by_cases c6 : x22_1 < (t166.length : Int)
     · rw [if_pos c6] at H
       have c6b0 : decide (x22_1 < (t166.length : Int)) = true := decide_eq_true c6
       clear c6
       by_cases c7 : 0 ≤ x22_1
       · rw [if_pos c7] at H
         have c7b0 : decide (0 ≤ x22_1) = true := decide_eq_true c7
         clear c7
         by_cases c8 : x22_1 < (t166.length : Int)
         · rw [if_pos c8] at H
           have c8b0 : decide (x22_1 < (t166.length : Int)) = true := decide_eq_true c8
           clear c8
           have H' := Aside0.mk H
           clear H
           have p170 : 0 ≤ (x22_1 : Int) := od_
           have q170 : x22_1 < (t166.length : Int) := od_
           obtain ⟨ad170, A170_0, c170_0, e170, hx170_0, hl170_0, hi170_0⟩ := at_L1 (Kd.V_reads' HO_20.out).2.2 x22_1 p170 q170
           cases e170
           obtain ⟨ce170, hce170, hMe170, hcc170⟩ := Kd.V_get HO_20.out [] x22_1 p170 (by first | exact q170 | exact od_ | (have e_ := (Kd.V_reads' HO_20.out).1; omega))
           obtain ⟨ua170_0, uc170_0, rfl, ul170_0, ge170_0⟩ := Kd.FK_slice_open hMe170
           have hv170_0 := hcc170 0 _ rfl
           rw [Nat.add_zero, show ((Kd.slice 3 (Kd.int .i64))).sz = 1 from rfl, Nat.mul_one] at hv170_0
           replace hv170_0 := Option.some.inj (hv170_0.symm.trans hx170_0)
           injection hv170_0 with hva_ hvn_ hvc_
           rw [hva_] at ge170_0
           rw [hvc_] at ul170_0
           have HL170_0 := Aside0.mk (show Kd.V (Kd.int .i64) 3 _ w.heap.size _ _ (rd_L1 t166 x22_1) from Kd.V_mk ul170_0 ge170_0)
           clear hva_ hvn_ hvc_ ge170_0 ul170_0
           clear hcc170 hce170
           have HR170_0 := Aside0.mk hi170_0
           have HC170_0 := Aside0.mk hl170_0
           clear hi170_0 hl170_0
           replace p170 := eq_true p170
           replace q170 := eq_true q170
           go_wp2
           go_loopg [7, 8, 29] k1 (fun kq v7 v8 v29 w' => ∃ (x7_2 : Int) (x8_2 : Int) (x29_2 : Int), v7 = .int .i64 x7_2 ∧ v8 = .int .i64 x8_2 ∧ v29 = .int .i64 x29_2 ∧ Aside0 (veils_Minus.l1 kq t166 x7_2 x8_2 x22_1 t166 (t166.length : Int) x22_1 (rd_L1 t166 x22_1) ((rd_L1 t166 x22_1).length : Int) x29_2 = some (r1, r2, r3)) ∧ Aside0 (kq ≤ k1) ∧ Aside0 (Kd.V (Kd.slice 3 (Kd.int .i64)) 28 w' w.heap.size (fun _ => True) (.slice (some ad170) t166.length co5) t166) ∧ Aside0 (Kd.V (Kd.slice 3 (Kd.int .i64)) 28 w' w.heap.size (fun _ => True) (.slice (some ad170) t166.length co5) t166) ∧ Aside0 (Kd.C (Kd.int .i64) w' A170_0 (rd_L1 t166 x22_1).length (rd_L1 t166 x22_1)) ∧ Aside0 (Below w.heap.size w w'))
           case atStart => exact ⟨(x7_1), (x8_1), (0), rf_, rf_, rf_, H', ⟨Nat.le_refl _⟩, ⟨nV_ HO_5.out⟩, ⟨nV_ HO_20.out⟩, ⟨by repeat (first | (with_reducible exact HR170_0.out) | (with_reducible refine Kd.C_alloc ?_ _) | (with_reducible refine Kd.C_drewN ?_ _) | (with_reducible refine Kd.C_drew ?_) | exact HR170_0.out)⟩, ⟨bel_⟩⟩
           case round =>
            clear H'
            try clear c1
            try clear p1
            try clear q1
            try clear hx1
            try clear p2
            try clear c3
            try clear c4
            try clear c5
            try clear c6
            try clear c6b0
            try clear c7
            try clear c7b0
            try clear c8
            try clear c8b0
            try clear hx170_0
            try clear p170
            try clear p2
            try clear q170
            obtain ⟨x7_2, x8_2, x29_2, rfl, rfl, rfl, HA, HK2, HO_5, HO_20, HR170_0, HB⟩ := hrel
            cases gk with
            | zero => exact absurd HA.out (by simp [veils_Minus.l1])
            | succ k2 =>
             have H := HA.out
             clear HA
             simp only [veils_Minus.l1] at H
             by_cases c9 : x29_2 < ((rd_L1 t166 x22_1).length : Int)
             · rw [if_pos c9] at H
               have c9b0 : decide (x29_2 < ((rd_L1 t166 x22_1).length : Int)) = true := decide_eq_true c9
               clear c9
               by_cases c10 : 0 ≤ x29_2
               · rw [if_pos c10] at H
                 have c10b0 : decide (0 ≤ x29_2) = true := decide_eq_true c10
                 clear c10
                 by_cases c11 : x29_2 < ((rd_L1 t166 x22_1).length : Int)
                 · rw [if_pos c11] at H
                   have c11b0 : decide (x29_2 < ((rd_L1 t166 x22_1).length : Int)) = true := decide_eq_true c11
                   clear c11
                   by_cases c12 : (rd (rd_L1 t166 x22_1) x29_2) < 0
                   · rw [if_pos c12] at H
                     have c12b0 : decide ((rd (rd_L1 t166 x22_1) x29_2) < 0) = true := decide_eq_true c12
                     clear c12
                     replace H := Option.bind_eq_some_iff.mp H
                     obtain ⟨t172, A130, H⟩ := H
                     replace H : ((veils_veil_sum.f k2 t166 (wrap64 (x22_1 + 1)) x29_2).bind fun t173 => (veils_Minus.l1 k2 t166 (wrap64 (x7_2 + 1)) (wrap64 (x8_2 + (wrap64 ((rd (rd_L1 t166 x22_1) x29_2) * (wrap64 (t172 - t173)))))) x22_1 t166 (t166.length : Int) x22_1 (rd_L1 t166 x22_1) ((rd_L1 t166 x22_1).length : Int) (wrap64 (x29_2 + 1)))) = some (r1, r2, r3) := H
                     have A13 := Aside0.mk A130
                     clear A130
                     replace H := Option.bind_eq_some_iff.mp H
                     obtain ⟨t173, A140, H⟩ := H
                     replace H : (veils_Minus.l1 k2 t166 (wrap64 (x7_2 + 1)) (wrap64 (x8_2 + (wrap64 ((rd (rd_L1 t166 x22_1) x29_2) * (wrap64 (t172 - t173)))))) x22_1 t166 (t166.length : Int) x22_1 (rd_L1 t166 x22_1) ((rd_L1 t166 x22_1).length : Int) (wrap64 (x29_2 + 1))) = some (r1, r2, r3) := H
                     have A14 := Aside0.mk A140
                     clear A140
                     have H' := Aside0.mk H
                     clear H
                     obtain ⟨ad171, e171, hx171_0, p171, q171⟩ := ai_ HR170_0.out x29_2
                     cases e171
                     try replace hx171_0 := (HB.out.cell (World.block_lt_of_cell? w _ hx171_0)).trans hx171_0
                     go_wp2_with (first | ((with_reducible refine gate_callee (f := 54) rfl ?_); refine goesL_ (some 44) rfl rfl Try.func54 (by kernel_rfl) rfl #[.slice (some ad170) t166.length co5, .int .i64 (t166.length : Int), .int .i64 x29_2] rfl ar_ ?_; (with_reducible refine (veils_veil_sum.calls k2 _ _ t166 (t166.length : Int) x29_2 t172 _ ?side1 ?side2 A13.out).mono ?_); (case side1 => repeat (first | exact (Kd.V_reads' HO_5.out).2.2 | (with_reducible refine Kd.C_alloc ?_ _) | (with_reducible refine Kd.C_drewN ?_ _) | (with_reducible refine Kd.C_drew ?_))); (case side2 => exact (Kd.V_reads' HO_5.out).2.1); rintro e w' ⟨rfl, ⟨nd, rfl⟩⟩; refine ⟨_, rfl, ?_⟩) | ((with_reducible refine gate_callee (f := 54) rfl ?_); refine goesL_ (some 49) rfl rfl Try.func54 (by kernel_rfl) rfl #[.slice (some ad170) t166.length co5, .int .i64 (wrap64 (x22_1 + 1)), .int .i64 x29_2] rfl ar_ ?_; (with_reducible refine (veils_veil_sum.calls k2 _ _ t166 (wrap64 (x22_1 + 1)) x29_2 t173 _ ?side1 ?side2 A14.out).mono ?_); (case side1 => repeat (first | exact (Kd.V_reads' HO_5.out).2.2 | (with_reducible refine Kd.C_alloc ?_ _) | (with_reducible refine Kd.C_drewN ?_ _) | (with_reducible refine Kd.C_drew ?_))); (case side2 => exact (Kd.V_reads' HO_5.out).2.1); rintro e w' ⟨rfl, ⟨nd, rfl⟩⟩; refine ⟨_, rfl, ?_⟩))
                     go_roundg k2
                     case measure => have := HK1.out; have := HK2.out; omega
                     case rel => exact ⟨(wrap64 (x7_2 + 1)), (wrap64 (x8_2 + (wrap64 ((rd (rd_L1 t166 x22_1) x29_2) * (wrap64 (t172 - t173)))))), (wrap64 (x29_2 + 1)), rf_, rf_, rf_, H', ⟨by have := HK1.out; have := HK2.out; omega⟩, ⟨nV_ HO_5.out⟩, ⟨nV_ HO_20.out⟩, ⟨by repeat (first | (with_reducible exact HR170_0.out) | (with_reducible refine Kd.C_alloc ?_ _) | (with_reducible refine Kd.C_drewN ?_ _) | (with_reducible refine Kd.C_drew ?_) | exact HR170_0.out)⟩, ⟨bel_⟩⟩
                   · rw [if_neg c12] at H
                     have c12b0 : decide ((rd (rd_L1 t166 x22_1) x29_2) < 0) = false := decide_eq_false c12
                     clear c12
                     replace H := Option.bind_eq_some_iff.mp H
                     obtain ⟨t174, A150, H⟩ := H
                     replace H : ((veils_veil_sum.f k2 t166 (wrap64 (x22_1 + 1)) x29_2).bind fun t175 => (veils_Minus.l1 k2 t166 x7_2 (wrap64 (x8_2 + (wrap64 ((rd (rd_L1 t166 x22_1) x29_2) * (wrap64 (t174 - t175)))))) x22_1 t166 (t166.length : Int) x22_1 (rd_L1 t166 x22_1) ((rd_L1 t166 x22_1).length : Int) (wrap64 (x29_2 + 1)))) = some (r1, r2, r3) := H
                     have A15 := Aside0.mk A150
                     clear A150
                     replace H := Option.bind_eq_some_iff.mp H
                     obtain ⟨t175, A160, H⟩ := H
                     replace H : (veils_Minus.l1 k2 t166 x7_2 (wrap64 (x8_2 + (wrap64 ((rd (rd_L1 t166 x22_1) x29_2) * (wrap64 (t174 - t175)))))) x22_1 t166 (t166.length : Int) x22_1 (rd_L1 t166 x22_1) ((rd_L1 t166 x22_1).length : Int) (wrap64 (x29_2 + 1))) = some (r1, r2, r3) := H
                     have A16 := Aside0.mk A160
                     clear A160
                     have H' := Aside0.mk H
                     clear H
                     obtain ⟨ad171, e171, hx171_0, p171, q171⟩ := ai_ HR170_0.out x29_2
                     cases e171
                     try replace hx171_0 := (HB.out.cell (World.block_lt_of_cell? w _ hx171_0)).trans hx171_0
                     go_wp2_with (first | ((with_reducible refine gate_callee (f := 54) rfl ?_); refine goesL_ (some 44) rfl rfl Try.func54 (by kernel_rfl) rfl #[.slice (some ad170) t166.length co5, .int .i64 (t166.length : Int), .int .i64 x29_2] rfl ar_ ?_; (with_reducible refine (veils_veil_sum.calls k2 _ _ t166 (t166.length : Int) x29_2 t174 _ ?side1 ?side2 A15.out).mono ?_); (case side1 => repeat (first | exact (Kd.V_reads' HO_5.out).2.2 | (with_reducible refine Kd.C_alloc ?_ _) | (with_reducible refine Kd.C_drewN ?_ _) | (with_reducible refine Kd.C_drew ?_))); (case side2 => exact (Kd.V_reads' HO_5.out).2.1); rintro e w' ⟨rfl, ⟨nd, rfl⟩⟩; refine ⟨_, rfl, ?_⟩) | ((with_reducible refine gate_callee (f := 54) rfl ?_); refine goesL_ (some 49) rfl rfl Try.func54 (by kernel_rfl) rfl #[.slice (some ad170) t166.length co5, .int .i64 (wrap64 (x22_1 + 1)), .int .i64 x29_2] rfl ar_ ?_; (with_reducible refine (veils_veil_sum.calls k2 _ _ t166 (wrap64 (x22_1 + 1)) x29_2 t175 _ ?side1 ?side2 A16.out).mono ?_); (case side1 => repeat (first | exact (Kd.V_reads' HO_5.out).2.2 | (with_reducible refine Kd.C_alloc ?_ _) | (with_reducible refine Kd.C_drewN ?_ _) | (with_reducible refine Kd.C_drew ?_))); (case side2 => exact (Kd.V_reads' HO_5.out).2.1); rintro e w' ⟨rfl, ⟨nd, rfl⟩⟩; refine ⟨_, rfl, ?_⟩))
                     go_roundg k2
                     case measure => have := HK1.out; have := HK2.out; omega
                     case rel => exact ⟨(x7_2), (wrap64 (x8_2 + (wrap64 ((rd (rd_L1 t166 x22_1) x29_2) * (wrap64 (t174 - t175)))))), (wrap64 (x29_2 + 1)), rf_, rf_, rf_, H', ⟨by have := HK1.out; have := HK2.out; omega⟩, ⟨nV_ HO_5.out⟩, ⟨nV_ HO_20.out⟩, ⟨by repeat (first | (with_reducible exact HR170_0.out) | (with_reducible refine Kd.C_alloc ?_ _) | (with_reducible refine Kd.C_drewN ?_ _) | (with_reducible refine Kd.C_drew ?_) | exact HR170_0.out)⟩, ⟨bel_⟩⟩
                 · rw [if_neg c11] at H
                   exact absurd H (by simp)
               · rw [if_neg c10] at H
                 exact absurd H (by simp)
             · rw [if_neg c9] at H
               have c9b0 : decide (x29_2 < ((rd_L1 t166 x22_1).length : Int)) = false := decide_eq_false c9
               clear c9
               have H' := Aside0.mk H
               clear H
               go_wp2
               go_roundg k2
               case measure => have := HK1.out; have := HK2.out; omega
               case rel => exact ⟨(x7_2), (x8_2), (wrap64 (x22_1 + 1)), rf_, rf_, rf_, H', ⟨by have := HK1.out; have := HK2.out; omega⟩, ⟨nV_ HO_5.out⟩, ⟨nV_ HO_20.out⟩, ⟨bel_⟩⟩
         · rw [if_neg c8] at H
           exact absurd H (by simp)
       · rw [if_neg c7] at H
         exact absurd H (by simp)
     · rw [if_neg c6] at H
       have c6b0 : decide (x22_1 < (t166.length : Int)) = false := decide_eq_false c6
       clear c6
       simp only [Option.some.injEq, Prod.mk.injEq] at H
       obtain ⟨rfl, rfl, rfl⟩ := H
       go_wp2
       go_ret3
       exact ⟨er_, bel_⟩
 · replace c3 := Bool.eq_false_iff.mpr c3
   subst c3
   have H1 : (some (0, 0, 2)) = some (r1, r2, r3) := by rw [if_neg (show ¬ (false = true) by decide)] at H; exact H
   clear H
   have H := H1
   clear H1
   simp only [Option.some.injEq, Prod.mk.injEq] at H
   obtain ⟨rfl, rfl, rfl⟩ := H
   go_enter Try.func45, Try.ntmps45
   go_wp2_with (first | ((with_reducible refine gate_callee (f := 51) rfl ?_); refine goesL_ (some 15) rfl rfl Try.func51 (by kernel_rfl) rfl #[.slice A0 l0.length c0] rfl ar_ ?_; (with_reducible refine (veils_read.calls k (fun k_ => k_ < w.heap.size) _ _ l0 t166 false _ ?side1 A2.out).mono ?_); (case side1 => exact Kd.V_mk HC0.out (Kd.F_below (Kd.C_F (Kd.heap_slice 3 (Kd.heap_int .i64)) HR0.out) (bel_))); rintro e w17 ⟨v167, rfl, ho0, hb⟩; refine ⟨_, rfl, ?_⟩; have n0_ := Aside0.mk (Kd.V_lower (Kd.V_mono (ok' := fun k_ => True) ho0 (fun k_ hk_ => trivial)) (below_size (bel_))); have n1_ := Aside0.mk (below_step (bel_) hb); clear HB; have HO168 := n0_; have HB := n1_; clear n0_ n1_; (try clear hb); (try clear hb2); (try clear hk); (try clear hi); (try clear ho0)))
   go_ret3
   exact ⟨er_, bel_⟩

end Go.Proofs.Ytdinepghommchaa.V
