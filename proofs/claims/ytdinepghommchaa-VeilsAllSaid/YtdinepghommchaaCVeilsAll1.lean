/- The walks and the pure laws under the claim of VeilsAll, part: Vg13, Vf36, Vf39, Vg39, Vf40, Vf12, Vf3, PureAll. -/
import Derived.Test.YtdinepghommchaaCb1
import Derived.Test.YtdinepghommchaaCb3
import Derived.Test.YtdinepghommchaaCb2
import Derived.Test.YtdinepghommchaaCb8
/- All once more: the veils that it returns lie apart, so that one of them can be written. -/
namespace Go.Proofs.Ytdinepghommchaa.V
open Go.RowKit Go.Proofs.YtdinepghommchaaW.PrintWords Go.Proofs.YtdinepghommchaaW.PrintLast Go.Proofs.YtdinepghommchaaW.PrintMore
set_option linter.unusedVariables false
set_option linter.unusedSimpArgs false
set_option maxHeartbeats 4000000 in
set_option maxRecDepth 100000 in
theorem veils_All.callsS (a0 : Int) (r1 : List (List (List Int))) (r2 : Int) (w : World) (h : veils_All.f a0 = some (r1, r2)) :
    Calls Try.prog 13 #[.int .i64 a0] w fun e w' => ∃ v0_ : Value, e = .returned (.tuple #[v0_, .int .i64 r2]) ∧ Kd.S (Kd.slice 28 (Kd.slice 3 (Kd.int .i64))) 27 w' w.heap.size (fun _ => True) v0_ r1 ∧ Below w.heap.size w w' := by
  unfold veils_All.f at h
  by_cases c1 : a0 < 1
  · rw [if_pos c1] at h
    obtain ⟨rfl, rfl⟩ := Prod.mk.inj (Option.some.inj h)
    have d1 : decide (a0 < 1) = true := decide_eq_true c1
    clear h c1
    go_enter Try.func13, Try.ntmps13
    go_wp2
    go_ret2
    exact ⟨.slice none 0 0, rfl, Kd.S_nil _ _ _ _ _, by repeat (first | exact Below.refl _ _ | apply below_alloc)⟩
  · rw [if_neg c1] at h
    by_cases c2 : 5 < a0
    · rw [if_pos c2] at h
      obtain ⟨rfl, rfl⟩ := Prod.mk.inj (Option.some.inj h)
      have d1 : decide (a0 < 1) = false := decide_eq_false c1
      have d2 : decide (5 < a0) = true := decide_eq_true c2
      clear h c1 c2
      go_enter Try.func13, Try.ntmps13
      go_wp2
      go_ret2
      exact ⟨.slice none 0 0, rfl, Kd.S_nil _ _ _ _ _, by repeat (first | exact Below.refl _ _ | apply below_alloc)⟩
    · rw [if_neg c2] at h
      obtain ⟨r, hr, h⟩ := Option.bind_eq_some_iff.mp h
      obtain ⟨rfl, rfl⟩ := Prod.mk.inj (Option.some.inj h)
      obtain ⟨n, rfl⟩ := Int.eq_ofNat_of_zero_le (show 0 ≤ a0 by omega)
      have hn1 : 1 ≤ n := by omega
      have hn5 : n ≤ 5 := by omega
      rw [Int.toNat_natCast] at hr
      have d1 : decide ((n : Int) < 1) = false := decide_eq_false c1
      have d2 : decide (5 < (n : Int)) = false := decide_eq_false c2
      have d3 : decide (n < 1) = false := decide_eq_false (by omega)
      have d4 : decide (5 < n) = false := decide_eq_false (by omega)
      have HR := Aside0.mk hr
      clear h hr c1 c2
      have hmf : ∀ (fn : Fn) (first cap : Array Value) (w : World), (Instr.makeFunc fn first cap).run Try.prog w = .ok (.func fn first cap) w := fun _ _ _ _ => rfl
      have B1 := Aside0.mk (blk_new w (.cells #[.slice none 0 0] 22))
      have hF : Aside0 (∀ hi, (w.alloc (.cells #[.slice none 0 0] 22)).heap.size ≤ hi → Found w.heap.size (w.alloc (.cells #[.slice none 0 0] 22)).heap.size hi 42 #[.pointer (some ⟨w.heap.size, 0, none⟩)] veils_All1.f (AccAll w.heap.size hi)) := ⟨fun hi hh => ⟨fun W A c t a b hw hr hc ha h => veils_All1.calls (lo0 := w.heap.size) (lo := (w.alloc (.cells #[.slice none 0 0] 22)).heap.size) (hi := hi) (Nat.le_refl _) (by simp) hh W A c t a b hw hr hc ha h, fun W W' a ha hs => ha.same (by simp) hs⟩⟩
      have hA : Aside0 (∀ hi, (w.alloc (.cells #[.slice none 0 0] 22)).heap.size ≤ hi → AccAll w.heap.size hi (w.alloc (.cells #[.slice none 0 0] 22)) []) := ⟨fun hi _ => ⟨_, B1.out, Kd.S_nil _ _ _ _ _⟩⟩
      go_enter Try.func13, Try.ntmps13
      go_wp2_with (go_at_call 41; refine (veils_all.calls (Acc := AccAll w.heap.size) hn1 hn5 Try.func42 (by kernel_rfl) rfl [] r _ hF (by simp) hA ⟨HR.out⟩).mono ?_; rintro e w1 ⟨rfl, ⟨hi, hhi, v, hv, hS⟩, hsame⟩; have cv := (blk_cell hv 0).trans (rfl : _ = some v); have HS := Aside0.mk (Kd.S_mono (ok' := fun _ => True) (Kd.S_lower hS (base' := w.heap.size) (by simp at hhi; omega)) (fun _ _ => trivial)); have HM := Aside0.mk hsame; clear hv hS hsame hhi)
      go_ret2
      exact ⟨v, rfl, HS.out, (below_alloc (Below.refl _ _) _).trans ⟨HM.out.os, HM.out.tape, HM.out.output, HM.out.size, fun k hk => HM.out.block k hk (by simp; omega)⟩⟩

/-- From the i-th element on, a row of tables stands as it was told; each in memory of its own. -/
def Iv (w : World) (base mid : Nat) (v : Value) (xs : List (List (List Int))) (i : Int) : Prop :=
  ∃ f : Nat → Nat, ∀ j : Nat, i ≤ (j : Int) → j < xs.length → ∃ g co A c, v = .slice (some ⟨g, 0, none⟩) xs.length co ∧ mid ≤ g ∧ g < w.heap.size ∧ w.cell? ⟨g, j, none⟩ = some (.slice A (rd_L2 xs (j : Int)).length c) ∧ (rd_L2 xs (j : Int)).length ≤ c ∧
    Kd.R (Kd.slice 3 (Kd.int .i64)) 28 w base (fun k => (mid ≤ k ∧ k ≠ g) ∧ f k = j) (.slice A (rd_L2 xs (j : Int)).length c) (rd_L2 xs (j : Int))
theorem Iv.of_S {w : World} {base mid : Nat} {v : Value} {xs : List (List (List Int))} (h : Kd.S (Kd.slice 28 (Kd.slice 3 (Kd.int .i64))) 27 w base (fun k => mid ≤ k) v xs) : Iv w base mid v xs 0 := by
  have hlt := Kd.S_lt h
  have hR0 := Kd.S_R h
  obtain ⟨f, hR⟩ := h
  refine ⟨f, fun j _ hj => ?_⟩
  obtain ⟨g, cap, e, _, _, _⟩ := Kd.R_form hR0 (by omega)
  subst e
  have hg : mid ≤ g := hR0.1 g rfl
  obtain ⟨c, hcl, hM, hcc, _⟩ := Kd.R_elem hR (([] : List (List Int)), 0) (j : Int) (by omega) (by omega)
  have hz : (xs.zipIdx).getD j (([] : List (List Int)), 0) = (xs.getD j [], j) := by
    rw [List.getD_eq_getElem?_getD, List.getElem?_zipIdx, List.getElem?_eq_getElem hj, List.getD_eq_getElem?_getD, List.getElem?_eq_getElem hj]
    simp
  rw [Int.toNat_natCast, hz] at hM
  have hM' : (Kd.slice 28 (Kd.slice 3 (Kd.int .i64))).M w base (fun k => (mid ≤ k ∧ k ≠ g) ∧ f k = j) (xs.getD j []) c := hM
  obtain ⟨u, rfl, gu⟩ := hM'
  have gu' : Kd.R (Kd.slice 3 (Kd.int .i64)) 28 w base (fun k => (mid ≤ k ∧ k ≠ g) ∧ f k = j) u (xs.getD j []) := gu
  obtain ⟨A, c1, rfl⟩ := Kd.R_slice gu'
  have hx := hcc 0 _ rfl
  rw [Int.toNat_natCast, Nat.add_zero, show (Kd.tag f (Kd.slice 28 (Kd.slice 3 (Kd.int .i64)))).sz = 1 from rfl, Nat.mul_one] at hx
  have hrd : rd_L2 xs (j : Int) = xs.getD j [] := by unfold rd_L2; rw [Int.toNat_natCast]
  rw [hrd]
  exact ⟨g, cap, A, c1, rfl, hg, hlt g rfl, hx, (Kd.R_reads' gu').2.1, gu'⟩
theorem Iv.step {w w1 : World} {base mid : Nat} {v : Value} {xs : List (List (List Int))} {i : Int} (h : Iv w base mid v xs i) (hs : ∀ k, mid ≤ k → k < w.heap.size → w1.heap[k]? = w.heap[k]?) (hz : w.heap.size ≤ w1.heap.size) (hc : ∀ g j, mid ≤ g → g < w.heap.size → w1.cell? ⟨g, j, none⟩ = w.cell? ⟨g, j, none⟩) : Iv w1 base mid v xs i := by
  obtain ⟨f, h⟩ := h
  refine ⟨f, fun j h1 h2 => ?_⟩
  obtain ⟨g, co, A, c, e, hg, hl, hx, hlen, hR⟩ := h j h1 h2
  exact ⟨g, co, A, c, e, hg, by omega, by rw [hc g j hg hl]; exact hx, hlen, Kd.R_step hR (fun k hk hlt => hs k hk.1.1 hlt)⟩
theorem Iv.drewN {w : World} {base mid : Nat} {v : Value} {xs : List (List (List Int))} {i : Int} (h : Iv w base mid v xs i) (m : Nat) : Iv (w.drewN m) base mid v xs i :=
  h.step (fun _ _ _ => rfl) (Nat.le_refl _) (fun _ _ _ _ => rfl)
theorem Iv.drew {w : World} {base mid : Nat} {v : Value} {xs : List (List (List Int))} {i : Int} (h : Iv w base mid v xs i) : Iv w.drew base mid v xs i :=
  h.step (fun _ _ _ => rfl) (Nat.le_refl _) (fun _ _ _ _ => rfl)
/-- One element: where it lies, where its first number lies, and what stands when that is written. -/
theorem Iv.at_ {w : World} {base mid : Nat} {v : Value} {xs : List (List (List Int))} {i : Int} (h : Iv w base mid v xs i) (h0 : 0 ≤ i) (h1 : i < (xs.length : Int)) (hl : 0 < (rd_L2 xs i).length) (hl2 : 0 < (rd_L1 (rd_L2 xs i) 0).length) :
    ∃ g co g1 c g2 c2, v = .slice (some ⟨g, 0, none⟩) xs.length co ∧ w.cell? ⟨g, i.toNat, none⟩ = some (.slice (some ⟨g1, 0, none⟩) (rd_L2 xs i).length c) ∧ (rd_L2 xs i).length ≤ c ∧ Kd.C (Kd.slice 3 (Kd.int .i64)) w (some ⟨g1, 0, none⟩) (rd_L2 xs i).length (rd_L2 xs i) ∧
      w.cell? ⟨g1, 0, none⟩ = some (.slice (some ⟨g2, 0, none⟩) (rd_L1 (rd_L2 xs i) 0).length c2) ∧ w.cell? ⟨g2, 0, none⟩ = some (.int .i64 (rd (rd_L1 (rd_L2 xs i) 0) 0)) ∧ w.frozen? ⟨g2, 0, none⟩ = false ∧ mid ≤ g2 ∧ base ≤ g2 ∧
      ∀ x, Iv (w.setCell ⟨g2, 0, none⟩ x) base mid v xs (i + 1) := by
  obtain ⟨f, hI⟩ := h
  obtain ⟨n, rfl⟩ := Int.eq_ofNat_of_zero_le h0
  obtain ⟨g, co, A, c, e, hg, hlt, hx, hlen, hR⟩ := hI n (by omega) (by omega)
  obtain ⟨g1, cap1, e1, _, _, _⟩ := Kd.R_form hR hl
  injection e1 with eA _ ec
  subst eA ec
  obtain ⟨cc, hcl, hM, hcc, _⟩ := Kd.R_elem hR ([] : List Int) 0 (by omega) (by omega)
  obtain ⟨u, rfl, gu⟩ := hM
  have gu' : Kd.R (Kd.int .i64) 3 w base _ u ((rd_L2 xs (n : Int)).getD (0 : Int).toNat []) := gu
  have hrd : (rd_L2 xs (n : Int)).getD (0 : Int).toNat [] = rd_L1 (rd_L2 xs (n : Int)) 0 := rfl
  rw [hrd] at gu'
  obtain ⟨g2, cap2, rfl, hb2, hl2', _⟩ := Kd.R_form gu' hl2
  have hx2 := hcc 0 _ rfl
  rw [show ((0 : Int).toNat * (Kd.slice 3 (Kd.int .i64)).sz + 0) = 0 from rfl] at hx2
  have hok := gu'.1 g2 rfl
  obtain ⟨hc2, hf2⟩ := Kd.R_celln (0 : Int) gu' 0 (by omega) (by omega)
  refine ⟨g, co, g1, _, g2, cap2, e, by rw [Int.toNat_natCast]; exact hx, hlen, (Kd.R_reads' hR).2.2, hx2, hc2, hf2, hok.1.1.1, hb2, fun x => ⟨f, fun j hj1 hj2 => ?_⟩⟩
  obtain ⟨g', co', A', c', e', hg', hlt', hx', hlen', hR'⟩ := hI j (by omega) hj2
  rw [e] at e'
  injection e' with eg _ _
  injection eg with eg
  injection eg with eg _ _
  subst eg
  have hne : g2 ≠ g := hok.1.1.2
  refine ⟨g, co, A', c', e, hg', by simpa [World.setCell] using hlt', ?_, hlen', Kd.R_far hR' (fun k hk he => ?_) x⟩
  · rw [World.cell?_setCell_far _ _ _ _ (show g2 ≠ g from hne)]
    exact hx'
  · have he : k = g2 := he
    subst he
    have a := hok.1.2
    have b := hk.2
    omega
/-- Two results: the elder one lies before, the newer one behind. -/
theorem mid_of {w w7 : World} {base : Nat} {u v : Value} {xs ys : List (List (List Int))} (h : Kd.R (Kd.slice 28 (Kd.slice 3 (Kd.int .i64))) 27 w base (fun _ => True) u xs) (hs : Kd.S (Kd.slice 28 (Kd.slice 3 (Kd.int .i64))) 27 w7 w.heap.size (fun _ => True) v ys) (hb : Below w.heap.size w w7) (hz : base ≤ w.heap.size) :
    ∃ mid, Aside0 (base ≤ mid) ∧ Aside0 (Kd.R (Kd.slice 28 (Kd.slice 3 (Kd.int .i64))) 27 w7 base (fun k => k < mid) u xs) ∧ Aside0 (Kd.S (Kd.slice 28 (Kd.slice 3 (Kd.int .i64))) 27 w7 base (fun k => mid ≤ k) v ys) :=
  ⟨w.heap.size, ⟨hz⟩, ⟨Kd.R_mono (Kd.R_below (Kd.R_bound h) hb) (fun k hk => hk.2.2.1)⟩, ⟨Kd.S_lower (Kd.S_mono (Kd.S_bound hs) (fun k hk => hk.2.1)) hz⟩⟩
theorem row_small {α : Type} {d : Kd α} {e base : Nat} {w : World} {ok : Nat → Prop} {v : Value} {xs : List α} (h : Kd.R d e w base ok v xs) : xs.length ≤ 9223372036854775807 := by
  obtain ⟨_, inner, ho, _⟩ := h
  rcases ho.2 with ⟨_, h⟩ | ⟨g, cap, cur, _, _, _, h1, h2, _⟩
  · omega
  · unfold maxLen at h2
    omega
end Go.Proofs.Ytdinepghommchaa.V

-- Written by a program of this session over the kit's printer: wip/gp.py.
namespace Go.Proofs.Ytdinepghommchaa.V
open Go.RowKit Go.Proofs.YtdinepghommchaaW.PrintWords Go.Proofs.YtdinepghommchaaW.PrintLast Go.Proofs.YtdinepghommchaaW.PrintMore
attribute [local go_sem] max2_int min2_int max_two min_two max_three min_three max_four min_four   -- for this text's walks alone
set_option linter.unusedVariables false
set_option linter.unusedSimpArgs false

/-! ### clocheref09_Copy: function 36 -/
def clocheref09_Copy.l0 : Nat → List (List Int) → List (List Int) → Int → Option ((List (List Int)))
 | 0, _, _, _ => none
 | k + 1, x0, x3, x4 => if x4 < (x0.length : Int) then (if 0 ≤ x4 then (if ([] : List Int).length + (rd_L1 x0 x4).length < 17592186044416 then (if x3.length < 5864062014805 then (clocheref09_Copy.l0 k x0 (x3 ++ [(([] : List Int) ++ (rd_L1 x0 x4))]) (wrap64 (x4 + 1))) else (none)) else (none)) else (none)) else (some x3)
def clocheref09_Copy.f (k : Nat) (l0 : List (List Int)) : Option ((List (List Int))) := clocheref09_Copy.l0 k l0 ([] : List (List Int)) 0
set_option maxHeartbeats 8000000 in
set_option maxRecDepth 100000 in
theorem clocheref09_Copy.calls (k : Nat) (A0 : Option Addr) (c0 : Nat) (l0 : List (List Int)) (r : List (List Int)) (w : World) (hr0 : Kd.C (Kd.slice 3 (Kd.int .i64)) w A0 l0.length l0) (hc0 : l0.length ≤ c0) (h : clocheref09_Copy.f k l0 = some r) :
 Calls Try.prog 36 #[.slice A0 l0.length c0] w fun e w' => ∃ v0_ : Value, e = .returned (v0_) ∧ Kd.S (Kd.slice 3 (Kd.int .i64)) 28 w' w.heap.size (fun _ => True) v0_ r ∧ Below w.heap.size w w' := by
 have HR0 := Aside0.mk hr0
 have HC0 := Aside0.mk hc0
 clear hr0 hc0
 have HB := Aside0.mk (Below.refl w.heap.size w)
 have H : (clocheref09_Copy.l0 k l0 ([] : List (List Int)) 0) = some r := h
 clear h
 have H' := Aside0.mk H
 clear H
 go_enter Try.func36, Try.ntmps36
 go_wp2
 go_loopg [3, 4] k (fun kq v3 v4 w' => ∃ (x3_1 : List (List Int)) (x4_1 : Int), v4 = .int .i64 x4_1 ∧ Aside0 (clocheref09_Copy.l0 kq l0 x3_1 x4_1 = some r) ∧ Aside0 (kq ≤ k) ∧ Aside0 (Kd.S (Kd.slice 3 (Kd.int .i64)) 28 w' w.heap.size (fun _ => True) v3 x3_1) ∧ Aside0 (Below w.heap.size w w'))
 case atStart => exact ⟨(([] : List (List Int))), (0), rf_, H', ⟨Nat.le_refl _⟩, ⟨by first | exact Kd.S_nil _ _ _ _ _ | exact Kd.N_nil _ _ _ _ _ | exact Kd.V_nil _ _ _ _ _ | exact Kd.Q_nil _ _ _ _ _ | exact Kd.R_nil _ _ _ _ _⟩, ⟨bel_⟩⟩
 case round =>
  clear H'
  obtain ⟨x3_1, x4_1, rfl, HA, HK1, HO_3, HB⟩ := hrel
  cases gk with
  | zero => exact absurd HA.out (by simp [clocheref09_Copy.l0])
  | succ k1 =>
   have H := HA.out
   clear HA
   simp only [clocheref09_Copy.l0] at H
   by_cases c2 : x4_1 < (l0.length : Int)
   · rw [if_pos c2] at H
     have c2b0 : decide (x4_1 < (l0.length : Int)) = true := decide_eq_true c2
     clear c2
     by_cases c3 : 0 ≤ x4_1
     · rw [if_pos c3] at H
       have c3b0 : decide (0 ≤ x4_1) = true := decide_eq_true c3
       clear c3
       by_cases c4 : ([] : List Int).length + (rd_L1 l0 x4_1).length < 17592186044416
       · rw [if_pos c4] at H
         have LMc4 := Aside0.mk c4
         clear c4
         obtain ⟨y102, hy102⟩ : ∃ y_ : List Int, y_ = (([] : List Int) ++ (rd_L1 l0 x4_1)) := ⟨_, rfl⟩
         replace H : (if x3_1.length < 5864062014805 then (clocheref09_Copy.l0 k1 l0 (x3_1 ++ [y102]) (wrap64 (x4_1 + 1))) else (none)) = some r := by first | (rw [hy102]; with_reducible exact H) | (have H2_ := (Option.bind_some _ _).symm.trans H; rw [hy102]; with_reducible exact H2_) | (have H2_ := (Option.bind_some _ _).symm.trans H; with_reducible exact H2_) | with_reducible exact H | (rw [hy102]; exact H) | exact H
         have Ny102 := Aside0.mk hy102
         clear hy102
         by_cases c5 : x3_1.length < 5864062014805
         · rw [if_pos c5] at H
           have LMc5 := Aside0.mk c5
           clear c5
           obtain ⟨y105, hy105⟩ : ∃ y_ : List (List Int), y_ = (x3_1 ++ [y102]) := ⟨_, rfl⟩
           replace H : (clocheref09_Copy.l0 k1 l0 y105 (wrap64 (x4_1 + 1))) = some r := by first | (rw [hy105]; with_reducible exact H) | (have H2_ := (Option.bind_some _ _).symm.trans H; rw [hy105]; with_reducible exact H2_) | (have H2_ := (Option.bind_some _ _).symm.trans H; with_reducible exact H2_) | with_reducible exact H | (rw [hy105]; exact H) | exact H
           have Ny105 := Aside0.mk hy105
           clear hy105
           have H' := Aside0.mk H
           clear H
           obtain ⟨ad101, A101_0, c101_0, e101, hx101_0, HC101_0, HR101_0, p101, q101⟩ := al_ HR0.out x4_1
           cases e101
           replace hx101_0 := (HB.out.cell (World.block_lt_of_cell? w _ hx101_0)).trans hx101_0
           go_wp2_with (first | ((with_reducible refine gate_builtin (b := .append) (xs := #[.tmp 12, .tmp 16]) rfl ?_); at_builtin; refine Kd.R_append_rows (Kd.int .i64) (w0 := w) w.heap.size rfl (.tmp 12) (.tmp 16) 28 3 (.int .i64 0) 8 rfl Try.underlying28 info3 rfl (by decide) (by omega) (.slice none 0 0) ([] : List Int) (rd_L1 l0 x4_1) _ _ _ (fun _ => True) (fun _ => False) rfl rfl ?aO ?aR (fun _ _ h => h) (fun _ h => h.elim) ?aF ?aB ?aS ?aL ?_; (case aR => repeat (first | exact (Kd.C_below HR101_0.out HB.out) | (with_reducible refine Kd.C_alloc ?_ _) | (with_reducible refine Kd.C_drewN ?_ _) | (with_reducible refine Kd.C_drew ?_))); (case aB => exact (bel_)); (case aF => exact (fun _ _ => trivial)); (case aO => exact ((Kd.R_nil _ _ _ _ (fun _ => True)))); (case aS => exact (below_size (bel_))); (case aL => have := LMc4.out; omega); intro v103 w6 ho hb hg hat; rw [← Ny102.out] at ho; have n0_ := Aside0.mk (Kd.S_after (Kd.S_apart_nil (nS_ HO_3.out)) hg hat); have n1_ := Aside0.mk (hb); have n2_ := Aside0.mk (ho); clear HO_3; clear HB; have HO_3 := n0_; have HB := n1_; have HO104 := n2_; clear n0_ n1_ n2_; clear ho hb hg hat; obtain ⟨Ao8, co8, eo8⟩ := Kd.R_slice HO104.out; subst eo8) | ((with_reducible refine gate_builtin (b := .append) (xs := #[.tmp 18, .tmp 20]) rfl ?_); at_builtin; refine Kd.S_append (Kd.slice 3 (Kd.int .i64)) (w0 := w) w.heap.size rfl (.tmp 18) (.tmp 20) 27 28 (.slice none 0 0) 24 rfl Try.underlying27 info28 rfl (by decide) (by omega) u3 x3_1 y102 [.slice Ao8 y102.length co8] (fun _ => True) (fun k_ => some k_ = (.slice Ao8 y102.length co8 : Value).ownBlock) rfl rfl ?aP (fun k_ hk_ => ((Kd.R_mono (ok' := fun k_ => ((fun _ => True)) k_ ∧ some k_ ≠ (u3 : Value).ownBlock) (Kd.R_apart' (HO104.out) (Kd.S_typed HO_3.out) (by decide)) (fun k_ hk => ⟨trivial, hk.2⟩))).1 k_ hk_.symm) ?aF ?aO ?aB ?aS ?aL ?_; (case aP => exact Kd.M_row (Kd.R_mono (Kd.R_tight rfl (Kd.R_mono (ok' := fun k_ => ((fun _ => True)) k_ ∧ some k_ ≠ (u3 : Value).ownBlock) (Kd.R_apart' (HO104.out) (Kd.S_typed HO_3.out) (by decide)) (fun k_ hk => ⟨trivial, hk.2⟩))) (fun _ h_ => h_))); (case aB => exact (bel_)); (case aF => exact (fun _ _ => trivial)); (case aO => exact (by (with_reducible repeat (first | apply Kd.S_alloc | apply Kd.S_drewN | apply Kd.S_drew)); exact Kd.S_mono HO_3.out (fun k_ hk => ⟨trivial, fun e_ => hk.2 e_⟩))); (case aS => exact (below_size (bel_))); (case aL => have := LMc5.out; omega); intro v106 w7 ho hb hg hat; rw [← Ny105.out] at ho; have n0_ := Aside0.mk (hb); have n1_ := Aside0.mk (ho); clear HB; clear HO_3; clear HO104; have HB := n0_; have HO107 := n1_; clear n0_ n1_; clear ho hb hg hat))
           go_roundg k1
           case measure => have := HK1.out; omega
           case rel => exact ⟨(y105), (wrap64 (x4_1 + 1)), rf_, H', ⟨by have := HK1.out; omega⟩, ⟨nS_ HO107.out⟩, ⟨bel_⟩⟩
         · rw [if_neg c5] at H
           exact absurd H (by simp)
       · rw [if_neg c4] at H
         exact absurd H (by simp)
     · rw [if_neg c3] at H
       exact absurd H (by simp)
   · rw [if_neg c2] at H
     have c2b0 : decide (x4_1 < (l0.length : Int)) = false := decide_eq_false c2
     clear c2
     obtain rfl := Option.some.inj H
     go_wp2
     go_ret
     exact ⟨_, er_, by (with_reducible repeat (first | apply Kd.S_alloc | apply Kd.S_drewN | apply Kd.S_drew)); exact HO_3.out, bel_⟩

end Go.Proofs.Ytdinepghommchaa.V

/- The walk of the specification's fill: it goes on with a veil at a place; its table lies in memory of its caller's, and so does the list that it appends to. -/
namespace Go.Proofs.Ytdinepghommchaa.V
open Go.RowKit Go.Proofs.YtdinepghommchaaW.PrintWords Go.Proofs.YtdinepghommchaaW.PrintLast Go.Proofs.YtdinepghommchaaW.PrintMore
set_option linter.unusedVariables false
set_option linter.unusedSimpArgs false

/-- The table lies between lo and mid, what has been found behind mid. -/
structure Fi (lo mid V cv n : Nat) (W : World) (t : List (List Int)) (vO : Value) (out : List (List (List Int))) : Prop where
 tab : Kd.S (Kd.slice 3 (Kd.int .i64)) 28 W lo (fun k => lo ≤ k ∧ k < mid) (.slice (some ⟨V, 0, none⟩) n cv) t
 wide : ∀ i, i < n → (t.getD i []).length = n
 size : mid ≤ W.heap.size
 out : Kd.S (Kd.slice 28 (Kd.slice 3 (Kd.int .i64))) 27 W mid (fun k => mid ≤ k) vO out
theorem Fi.len {lo mid V cv n : Nat} {W : World} {t : List (List Int)} {vO : Value} {out : List (List (List Int))} (h : Fi lo mid V cv n W t vO out) : t.length = n := (Kd.S_reads' h.tab).1.symm
theorem Fi.drewN {lo mid V cv n : Nat} {W : World} {t : List (List Int)} {vO : Value} {out : List (List (List Int))} (h : Fi lo mid V cv n W t vO out) (m : Nat) : Fi lo mid V cv n (W.drewN m) t vO out :=
 ⟨Kd.S_drewN h.tab m, h.wide, h.size, Kd.S_drewN h.out m⟩
theorem Fi.drew {lo mid V cv n : Nat} {W : World} {t : List (List Int)} {vO : Value} {out : List (List (List Int))} (h : Fi lo mid V cv n W t vO out) : Fi lo mid V cv n W.drew t vO out :=
 ⟨Kd.S_drew h.tab, h.wide, h.size, Kd.S_drew h.out⟩
/-- A place of the table. -/
theorem Fi.place {lo mid V cv n : Nat} {W : World} {t : List (List Int)} {vO : Value} {out : List (List (List Int))} (h : Fi lo mid V cv n W t vO out) (i j : Int) (h0 : 0 ≤ i) (h1 : i < n) (j0 : 0 ≤ j) (j1 : j < n) :
 ∃ g c, W.cell? ⟨V, i.toNat, none⟩ = some (.slice (some ⟨g, 0, none⟩) n c) ∧ lo ≤ g ∧ g < mid ∧ W.cell? ⟨g, j.toNat, none⟩ = some (.int .i64 (rd (rd_L1 t i) j)) ∧ W.frozen? ⟨g, j.toNat, none⟩ = false ∧
  ∀ x : Int, Fi lo mid V cv n (W.setCell ⟨g, j.toNat, none⟩ (.int .i64 x)) (t.set i.toNat ((rd_L1 t i).set j.toNat x)) vO out := by
 have hl := h.len
 have hw : (rd_L1 t i).length = n := h.wide i.toNat (by omega)
 obtain ⟨oki, c, hcl, hM, hcc, hok, hbk⟩ := Kd.S_borrow h.tab [] i h0 h1
 obtain ⟨v, rfl, gv⟩ := hM
 have gv' : Kd.R (Kd.int .i64) 3 W lo oki v (rd_L1 t i) := gv
 obtain ⟨g, cap, rfl, hb, hlt, cells, hcells⟩ := Kd.R_form gv' (by omega)
 have hgo : oki g := gv'.1 g rfl
 have hgV := (hok g hgo).1
 have hcell := hcc 0 _ rfl
 rw [Nat.add_zero, show ((Kd.slice 3 (Kd.int .i64))).sz = 1 from rfl, Nat.mul_one, add_plain, hw] at hcell
 rw [hw] at gv'
 obtain ⟨hx, hf⟩ := Kd.R_celln (0 : Int) gv' j j0 j1
 refine ⟨g, cap, hcell, hgV.1, hgV.2, hx, hf, fun x => ?_⟩
 have hp := Kd.R_putg gv' j x
 refine ⟨?_, ?_, ?_, ?_⟩
 · have hb2 := hbk hp.2 (fun k hk => by injection hk with hk; subst hk; exact hgo) (x' := (rd_L1 t i).set j.toNat x) (by
    have z := Kd.M_row (e := 3) hp.1
    rw [hw]
    exact z)
   exact hb2
 · intro m hm
   show ((t.set i.toNat ((rd_L1 t i).set j.toNat x)).getD m []).length = n
   rw [List.getD_eq_getElem?_getD, List.getElem?_set]
   by_cases e : i.toNat = m
   · rw [if_pos e, if_pos (by omega)]
     simp [hw]
   · rw [if_neg e, ← List.getD_eq_getElem?_getD]
     exact h.wide m hm
 · have := h.size
   simpa [World.setCell] using this
 · exact Kd.S_far h.out (fun k hk => by show k ≠ g; omega) _

def rowS (t : List (List Int)) (i : Nat) : Nat → Int
 | 0 => 0
 | x + 1 => wrap64 (rowS t i x + rd (rd_L1 t (i : Int)) (x : Int))
def colS (t : List (List Int)) (j : Nat) : Nat → Int
 | 0 => 0
 | x + 1 => wrap64 (colS t j x + rd (rd_L1 t (x : Int)) (j : Int))
/-- Is a number left out at a place, where the row and the column sum to a and b with it? -/
def skipB (n i j : Nat) (a b : Int) : Bool := decide (a < 0 ∨ 1 < a ∨ b < 0 ∨ 1 < b ∨ ((j : Int) = (n : Int) - 1 ∧ a ≠ 1) ∨ ((i : Int) = (n : Int) - 1 ∧ b ≠ 1))
abbrev FS := List (List Int) × List (List (List Int))
def fillTry (rec : Nat → FS → Option FS) (n p i j : Nat) (r c : Int) : Nat → FS → Option FS
 | 0, z => some z
 | k + 1, z => if skipB n i j (wrap64 (r + (1 - (k : Int)))) (wrap64 (c + (1 - (k : Int)))) = true then fillTry rec n p i j r c k z
   else (rec (p + 1) (z.1.set i ((rd_L1 z.1 (i : Int)).set j (1 - (k : Int))), z.2)).bind (fillTry rec n p i j r c k)
def fillF (n : Nat) : Nat → Nat → FS → Option FS
 | 0, _, _ => none
 | k + 1, p, z =>
   if p = n * n then (clocheref09_Copy.f 1000 z.1).bind fun u => if z.2.length < 5864062014805 then some (z.1, z.2 ++ [u]) else none
   else (fillTry (fillF n k) n p (p / n) (p % n) (rowS z.1 (p / n) (p % n)) (colS z.1 (p % n) (p / n)) 3 z).map fun y => (y.1.set (p / n) ((rd_L1 y.1 ((p / n : Nat) : Int)).set (p % n) 0), y.2)

set_option maxHeartbeats 1000000 in
set_option maxRecDepth 100000 in
/-- At the end of the table. -/
theorem fill_end {lo mid V cv n : Nat} (hn : 1 ≤ n ∧ n ≤ 1000) (hlm : lo ≤ mid) (t u : List (List Int)) (out : List (List (List Int))) (vO : Value) (W : World) (hF : Aside0 (Fi lo mid V cv n W t vO out)) (hu : Aside0 (clocheref09_Copy.f 1000 t = some u)) (hL : Aside0 (out.length < 5864062014805)) :
 Calls Try.prog 39 #[.slice (some ⟨V, 0, none⟩) n cv, .int .i64 ((n * n : Nat) : Int), vO] W fun e W' => ∃ v, e = .returned v ∧ Fi lo mid V cv n W' t v (out ++ [u]) ∧ Same (fun k => k < lo) W W' := by
 have e0 : ((n * n : Nat) : Int) = (n : Int) * n := by simp
 have n1 : 1 ≤ (n : Int) := by omega
 have n2 : (n : Int) ≤ 1000 := by omega
 have hq : ((n : Int) * n == wrap64 ((n : Int) * n)) = true := by
   have h1 : (n : Int) * n ≤ 1000 * 1000 := Int.mul_le_mul n2 n2 (by omega) (by omega)
   have h2 : 0 ≤ (n : Int) * n := Int.mul_nonneg (by omega) (by omega)
   simp only [beq_iff_eq]
   unfold wrap64
   omega
 have HM : Aside0 (∀ w1, Kd.C (Kd.slice 3 (Kd.int .i64)) w1 (some ⟨V, 0, none⟩) t.length t → Calls Try.prog 36 #[.slice (some ⟨V, 0, none⟩) n cv] w1 (fun e w' => ∃ v0_ : Value, e = .returned v0_ ∧ Kd.S (Kd.slice 3 (Kd.int .i64)) 28 w' w1.heap.size (fun _ => True) v0_ u ∧ Below w1.heap.size w1 w')) :=
   ⟨fun w1 h => by have z := clocheref09_Copy.calls 1000 (some ⟨V, 0, none⟩) cv t u w1 h (by have := (Kd.S_reads' hF.out.tab).2.1; rw [hF.out.len]; exact this) hu.out; rwa [hF.out.len] at z⟩
 have HR : Aside0 (Kd.C (Kd.slice 3 (Kd.int .i64)) W (some ⟨V, 0, none⟩) t.length t) := ⟨(Kd.S_reads' hF.out.tab).2.2⟩
 rw [e0]
 clear e0
 go_enter Try.func39, Try.ntmps39
 have HSZ := Aside0.mk hF.out.size
 have HT := Aside0.mk (Kd.S_lt hF.out.out)
 go_wp2_with (first
   | ((with_reducible refine gate_callee (f := 36) rfl ?_); refine goesL_ (some 24) rfl rfl Try.func36 (by kernel_rfl) rfl #[.slice (some ⟨V, 0, none⟩) n cv] rfl (by (try simp only [List.map_toArray, List.map_cons, List.map_nil]); first | done | rfl) ?_; (refine (HM.out _ ?s1).mono ?_); (case s1 => repeat (first | exact HR.out | (with_reducible refine Kd.C_alloc ?_ _) | (with_reducible refine Kd.C_drewN ?_ _) | (with_reducible refine Kd.C_drew ?_))); rintro e w2 ⟨v2, rfl, ho2, hb2⟩; refine ⟨_, rfl, ?_⟩; have HN2 := Aside0.mk (Kd.S_bound ho2); have HB2 := Aside0.mk hb2; have HO2 := Aside0.mk (Kd.S_below (Kd.S_bound hF.out.out) hb2); have HB2m := Aside0.mk (show Below mid W w2 from hb2.mono hF.out.size); have HW2 := Aside0.mk (Nat.le_trans hF.out.size hb2.size); have HZ2 := Aside0.mk hb2.size; clear ho2 hb2; obtain ⟨A2, c2, e2⟩ := Kd.S_slice HN2.out; subst e2)
   | ((with_reducible refine gate_builtin (b := .append) (xs := #[.tmp 22, .tmp 25]) rfl ?_); at_builtin; refine Kd.S_append (Kd.slice 28 (Kd.slice 3 (Kd.int .i64))) (w0 := W) mid rfl (.tmp 22) (.tmp 25) 22 27 (.slice none 0 0) 24 rfl Try.underlying22 info27 rfl (by decide) (by omega) vO out u [.slice A2 u.length c2] (fun k => mid ≤ k) (fun k => W.heap.size ≤ k) rfl rfl ?aP ?aQ ?aF ?aO ?aB ?aS ?aL ?_; (case aP => exact Kd.M_row (Kd.R_mono (Kd.R_lower (Kd.S_R HN2.out) HSZ.out) (fun k hk => hk.2.1))); (case aQ => exact fun k hk => ⟨by have := HSZ.out; omega, fun e => by have := HT.out k e.symm; omega⟩); (case aF => exact fun k hk => by have := HW2.out; omega); (case aO => exact Kd.S_mono HO2.out (fun k hk => ⟨hk.1, by have := hk.2.2.1; omega⟩)); (case aB => exact HB2m.out); (case aS => exact HW2.out); (case aL => have := hL.out; omega); intro v3 w3 ho3 hb3 hg3 hat3; have HO3 := Aside0.mk ho3; have HS3 := Aside0.mk (show Same (fun k => k < mid) w2 w3 from ⟨hg3.os, hg3.tape, hg3.output, hg3.size, fun k hk hl => hg3.block k hl (fun e => by have := Kd.S_base HO2.out k e.symm; omega)⟩); clear ho3 hb3 hg3 hat3))
 go_ret
 have HS := (Same.of_below (K := fun k => k < mid) HB2.out).trans HS3.out
 exact ⟨v3, rfl, ⟨Kd.S_step hF.out.tab (fun k hk hl => HS.block k hk.2 hl), hF.out.wide, Nat.le_trans hF.out.size HS.size, HO3.out⟩, HS.mono (fun k hk => by omega)⟩

set_option maxHeartbeats 4000000 in
set_option maxRecDepth 100000 in
theorem fill_step {lo mid V cv n : Nat} (hn : 1 ≤ n ∧ n ≤ 1000) (hlm : lo ≤ mid) (rec : Nat → FS → Option FS)
 (ih : Aside0 (∀ (p : Nat) (t t' : List (List Int)) (out out' : List (List (List Int))) (vO : Value) (W : World), p ≤ n * n → Fi lo mid V cv n W t vO out → rec p (t, out) = some (t', out') →
  Calls Try.prog 39 #[.slice (some ⟨V, 0, none⟩) n cv, .int .i64 p, vO] W fun e W' => ∃ v, e = .returned v ∧ Fi lo mid V cv n W' t' v out' ∧ Same (fun k => k < lo) W W'))
 (p i j : Nat) (hp : p < n * n) (hi0 : Aside0 (i = p / n)) (hj0 : Aside0 (j = p % n)) (t t' : List (List Int)) (out out' : List (List (List Int))) (vO : Value) (W : World) (hF : Aside0 (Fi lo mid V cv n W t vO out))
 (hr : Aside0 (fillTry rec n p i j (rowS t i j) (colS t j i) 3 (t, out) = some (t', out'))) :
 Calls Try.prog 39 #[.slice (some ⟨V, 0, none⟩) n cv, .int .i64 p, vO] W fun e W' => ∃ v, e = .returned v ∧ Fi lo mid V cv n W' (t'.set i ((rd_L1 t' (i : Int)).set j 0)) v out' ∧ Same (fun k => k < lo) W W' := by
 have n1 : 1 ≤ (n : Int) := by omega
 have n2 : (n : Int) ≤ 1000 := by omega
 have h1 : (n : Int) * n ≤ 1000 * 1000 := Int.mul_le_mul n2 n2 (by omega) (by omega)
 have h2 : 0 ≤ (n : Int) * n := Int.mul_nonneg (by omega) (by omega)
 have hq0 : wrap64 ((n : Int) * n) = (n : Int) * n := by unfold wrap64; omega
 have hnn : ((n * n : Nat) : Int) = (n : Int) * n := by simp
 have hp' : (p : Int) < (n : Int) * n := by omega
 have hq : ((p : Int) == wrap64 ((n : Int) * n)) = false := by
   rw [hq0]
   simp only [beq_eq_false_iff_ne]
   omega
 have hn0 : ¬ ((n : Int) = 0) := by omega
 have i1 : i < n := by rw [hi0.out]; exact Nat.div_lt_of_lt_mul hp
 have j1 : j < n := by rw [hj0.out]; exact Nat.mod_lt _ (by omega)
 have hI : wrap64 ((p : Int) / (n : Int)) = (i : Int) := by
   have e : ((p : Int) / (n : Int)) = (i : Int) := by rw [hi0.out]; simp
   rw [e]
   unfold wrap64
   omega
 have hJ : (p : Int) % (n : Int) = (j : Int) := by rw [hj0.out]; simp
 have P1 := Aside0.mk hp
 have P4 : Aside0 ((p : Int) ≤ 1000000) := ⟨by omega⟩
 have P2 := Aside0.mk hp'
 have P3 := Aside0.mk hnn
 clear hq0 h1 h2 hp hp' hnn
 go_enter Try.func39, Try.ntmps39
 go_wp2_with (fail)
 go_quiet (fail)
 go_wp2
 simp only [hI, hJ]
 go_loopg [10, 12] j (fun kq v10 v12 w' => ∃ x : Nat, v12 = .int .i64 (x : Int) ∧ v10 = .int .i64 (rowS t i x) ∧ Aside0 (x + kq = j) ∧ Drawn0 W w')
 case atStart => exact ⟨0, rfl, rfl, ⟨by omega⟩, dr_⟩
 case round =>
   obtain ⟨x, rfl, rfl, HK, ⟨m1, rfl⟩⟩ := hrel
   cases gk with
   | zero =>
    have hx : decide ((x : Int) < (j : Int)) = false := decide_eq_false (by have := HK.out; omega)
    obtain rfl : j = x := by have := HK.out; omega
    go_wp2
    obtain ⟨r, hr1⟩ : ∃ r : Int, rowS t i j = r := ⟨_, rfl⟩
    rw [hr1] at hr ⊢
    clear hx HK hr1
    go_loopg [11, 13] i (fun kq v11 v13 w' => ∃ x : Nat, v13 = .int .i64 (x : Int) ∧ v11 = .int .i64 (colS t j x) ∧ Aside0 (x + kq = i) ∧ Drawn0 W w')
    case atStart => exact ⟨0, rfl, rfl, ⟨by omega⟩, dr_⟩
    case round =>
     obtain ⟨x, rfl, rfl, HK, ⟨m2, rfl⟩⟩ := hrel
     cases gk with
     | zero =>
      have hx : decide ((x : Int) < (i : Int)) = false := decide_eq_false (by have := HK.out; omega)
      obtain rfl : i = x := by have := HK.out; omega
      go_wp2
      obtain ⟨c, hc1⟩ : ∃ c : Int, colS t j i = c := ⟨_, rfl⟩
      rw [hc1] at hr ⊢
      clear hx HK hc1
      have HF0 := Aside0.mk (hF.out.drewN m2)
      clear hF
      go_loopg [2, 14] 3 (fun kq v2 v14 w' => ∃ (x : Int) (t1 : List (List Int)) (o1 : List (List (List Int))), v14 = .int .i64 x ∧ -1 ≤ x ∧ x ≤ 2 ∧ Aside0 (x = 2 - (kq : Int)) ∧ Aside0 (kq ≤ 3) ∧ Aside0 (fillTry rec n p i j r c kq (t1, o1) = some (t', out')) ∧ Aside0 (Fi lo mid V cv n w' t1 v2 o1) ∧ Aside0 (Same (fun k => k < lo) W w'))
      case atStart => exact ⟨-1, t, out, rfl, by omega, by omega, ⟨by omega⟩, ⟨by omega⟩, hr, HF0, ⟨Same.drewN _ _⟩⟩
      case round =>
       clear hr HF0 hq hI hJ
       obtain ⟨x, t1, o1, rfl, x0, x2, X, HK, HA, HFi, HSm⟩ := hrel
       cases gk with
       | zero =>
        have hx : decide (x ≤ 1) = false := decide_eq_false (by have := X.out; omega)
        have H := Option.some.inj HA.out
        obtain ⟨rfl, rfl⟩ := Prod.mk.inj H
        clear HA H
        obtain ⟨g, c9, hv, hg1, hg2, hx9, hf9, hput⟩ := HFi.out.place (i : Int) (j : Int) (by omega) (by omega) (by omega) (by omega)
        rw [Int.toNat_natCast] at hv hx9 hf9
        have HPUT := Aside0.mk hput
        have HG1 := Aside0.mk (And.intro hg1 hg2)
        clear hput hg1 hg2
        have i2 : decide (i < n) = true := decide_eq_true i1
        have i3 : decide ((i : Int) < (n : Int)) = true := decide_eq_true (by omega)
        have j2 : decide (j < n) = true := decide_eq_true j1
        have j3 : decide ((j : Int) < (n : Int)) = true := decide_eq_true (by omega)
        go_wp2
        go_ret
        have hp0 := HPUT.out 0
        rw [Int.toNat_natCast, Int.toNat_natCast] at hp0
        exact ⟨_, rfl, hp0, HSm.out.trans (Same.setCell _ _ _ (fun hk => by have := HG1.out; dsimp only at hk; omega))⟩
       | succ k1 =>
        have hx : decide (x ≤ 1) = true := decide_eq_true (by have := X.out; omega)
        have hx1 : (1 - (k1 : Int)) = x := by have := X.out; omega
        have H := HA.out
        clear HA
        rw [fillTry] at H
        rw [hx1] at H
        obtain ⟨a, ha⟩ : ∃ a : Int, wrap64 (r + x) = a := ⟨_, rfl⟩
        obtain ⟨b, hb⟩ : ∃ b : Int, wrap64 (c + x) = b := ⟨_, rfl⟩
        rw [ha, hb] at H
        have haw : (IntKind.i64.wrap (r + x)) = a := (i64_w _).trans ha
        have hbw : (IntKind.i64.wrap (c + x)) = b := (i64_w _).trans hb
        have hn1 : wrap64 ((n : Int) - 1) = (n : Int) - 1 := by unfold wrap64; omega
        have hn1w : (IntKind.i64.wrap ((n : Int) - 1)) = (n : Int) - 1 := (i64_w _).trans hn1
        have HH := Aside0.mk H
        have HX := Aside0.mk hx1
        clear H hx1
        go_upto_region 17 with (fail)
        go_cut [110] (fun v110 wc => ∃ b9 : Bool, v110 = .bool b9 ∧ Aside0 (b9 = skipB n i j a b) ∧ Aside0 (Fi lo mid V cv n wc t1 u2 o1) ∧ Aside0 (Same (fun k => k < lo) W wc))
        case first =>
         by_cases e1 : a < 0
         · have e1h := Aside0.mk e1
           have e1b0 : decide (a < 0) = true := decide_eq_true e1
           clear e1
           go_wp2
           repeat (go_quiet (fail); try go_wp2)
           go_meet
           case rel => exact ⟨true, rfl, ⟨by have e1q := e1h.out; unfold skipB; exact (decide_eq_true (by omega)).symm⟩, ⟨by repeat (first | exact HFi.out | apply Fi.drewN | apply Fi.drew)⟩, ⟨by repeat (first | exact HSm.out | (refine Same.trans ?_ (Same.drewN _ _)))⟩⟩
         · have e1h := Aside0.mk e1
           have e1b0 : decide (a < 0) = false := decide_eq_false e1
           clear e1
           by_cases e2 : 1 < a
           · have e2h := Aside0.mk e2
             have e2b0 : decide (1 < a) = true := decide_eq_true e2
             clear e2
             go_wp2
             repeat (go_quiet (fail); try go_wp2)
             go_meet
             case rel => exact ⟨true, rfl, ⟨by have e1q := e1h.out; have e2q := e2h.out; unfold skipB; exact (decide_eq_true (by omega)).symm⟩, ⟨by repeat (first | exact HFi.out | apply Fi.drewN | apply Fi.drew)⟩, ⟨by repeat (first | exact HSm.out | (refine Same.trans ?_ (Same.drewN _ _)))⟩⟩
           · have e2h := Aside0.mk e2
             have e2b0 : decide (1 < a) = false := decide_eq_false e2
             clear e2
             by_cases e3 : b < 0
             · have e3h := Aside0.mk e3
               have e3b0 : decide (b < 0) = true := decide_eq_true e3
               clear e3
               go_wp2
               repeat (go_quiet (fail); try go_wp2)
               go_meet
               case rel => exact ⟨true, rfl, ⟨by have e1q := e1h.out; have e2q := e2h.out; have e3q := e3h.out; unfold skipB; exact (decide_eq_true (by omega)).symm⟩, ⟨by repeat (first | exact HFi.out | apply Fi.drewN | apply Fi.drew)⟩, ⟨by repeat (first | exact HSm.out | (refine Same.trans ?_ (Same.drewN _ _)))⟩⟩
             · have e3h := Aside0.mk e3
               have e3b0 : decide (b < 0) = false := decide_eq_false e3
               clear e3
               by_cases e4 : 1 < b
               · have e4h := Aside0.mk e4
                 have e4b0 : decide (1 < b) = true := decide_eq_true e4
                 clear e4
                 go_wp2
                 repeat (go_quiet (fail); try go_wp2)
                 go_meet
                 case rel => exact ⟨true, rfl, ⟨by have e1q := e1h.out; have e2q := e2h.out; have e3q := e3h.out; have e4q := e4h.out; unfold skipB; exact (decide_eq_true (by omega)).symm⟩, ⟨by repeat (first | exact HFi.out | apply Fi.drewN | apply Fi.drew)⟩, ⟨by repeat (first | exact HSm.out | (refine Same.trans ?_ (Same.drewN _ _)))⟩⟩
               · have e4h := Aside0.mk e4
                 have e4b0 : decide (1 < b) = false := decide_eq_false e4
                 clear e4
                 by_cases e5 : (j : Int) = (n : Int) - 1
                 · have e5h := Aside0.mk e5
                   have e5b0 : ((j : Int) == (n : Int) - 1) = true := beq_iff_eq.mpr e5
                   have e5b1 : ((j : Int) != (n : Int) - 1) = false := bne_eq_false_iff_eq.mpr e5
                   clear e5
                   by_cases e6 : a = 1
                   · have e6h := Aside0.mk e6
                     have e6b0 : (a == 1) = true := beq_iff_eq.mpr e6
                     have e6b1 : (a != 1) = false := bne_eq_false_iff_eq.mpr e6
                     clear e6
                     by_cases e7 : (i : Int) = (n : Int) - 1
                     · have e7h := Aside0.mk e7
                       have e7b0 : ((i : Int) == (n : Int) - 1) = true := beq_iff_eq.mpr e7
                       have e7b1 : ((i : Int) != (n : Int) - 1) = false := bne_eq_false_iff_eq.mpr e7
                       clear e7
                       by_cases e8 : b = 1
                       · have e8h := Aside0.mk e8
                         have e8b0 : (b == 1) = true := beq_iff_eq.mpr e8
                         have e8b1 : (b != 1) = false := bne_eq_false_iff_eq.mpr e8
                         clear e8
                         go_wp2
                         repeat (go_quiet (fail); try go_wp2)
                         go_meet
                         case rel => exact ⟨false, rfl, ⟨by have e1q := e1h.out; have e2q := e2h.out; have e3q := e3h.out; have e4q := e4h.out; have e5q := e5h.out; have e6q := e6h.out; have e7q := e7h.out; have e8q := e8h.out; unfold skipB; exact (decide_eq_false (by omega)).symm⟩, ⟨by repeat (first | exact HFi.out | apply Fi.drewN | apply Fi.drew)⟩, ⟨by repeat (first | exact HSm.out | (refine Same.trans ?_ (Same.drewN _ _)))⟩⟩
                       · have e8h := Aside0.mk e8
                         have e8b0 : (b == 1) = false := beq_eq_false_iff_ne.mpr e8
                         have e8b1 : (b != 1) = true := bne_iff_ne.mpr e8
                         clear e8
                         go_wp2
                         repeat (go_quiet (fail); try go_wp2)
                         go_meet
                         case rel => exact ⟨true, rfl, ⟨by have e1q := e1h.out; have e2q := e2h.out; have e3q := e3h.out; have e4q := e4h.out; have e5q := e5h.out; have e6q := e6h.out; have e7q := e7h.out; have e8q := e8h.out; unfold skipB; exact (decide_eq_true (by omega)).symm⟩, ⟨by repeat (first | exact HFi.out | apply Fi.drewN | apply Fi.drew)⟩, ⟨by repeat (first | exact HSm.out | (refine Same.trans ?_ (Same.drewN _ _)))⟩⟩
                     · have e7h := Aside0.mk e7
                       have e7b0 : ((i : Int) == (n : Int) - 1) = false := beq_eq_false_iff_ne.mpr e7
                       have e7b1 : ((i : Int) != (n : Int) - 1) = true := bne_iff_ne.mpr e7
                       clear e7
                       go_wp2
                       repeat (go_quiet (fail); try go_wp2)
                       go_meet
                       case rel => exact ⟨false, rfl, ⟨by have e1q := e1h.out; have e2q := e2h.out; have e3q := e3h.out; have e4q := e4h.out; have e5q := e5h.out; have e6q := e6h.out; have e7q := e7h.out; unfold skipB; exact (decide_eq_false (by omega)).symm⟩, ⟨by repeat (first | exact HFi.out | apply Fi.drewN | apply Fi.drew)⟩, ⟨by repeat (first | exact HSm.out | (refine Same.trans ?_ (Same.drewN _ _)))⟩⟩
                   · have e6h := Aside0.mk e6
                     have e6b0 : (a == 1) = false := beq_eq_false_iff_ne.mpr e6
                     have e6b1 : (a != 1) = true := bne_iff_ne.mpr e6
                     clear e6
                     go_wp2
                     repeat (go_quiet (fail); try go_wp2)
                     go_meet
                     case rel => exact ⟨true, rfl, ⟨by have e1q := e1h.out; have e2q := e2h.out; have e3q := e3h.out; have e4q := e4h.out; have e5q := e5h.out; have e6q := e6h.out; unfold skipB; exact (decide_eq_true (by omega)).symm⟩, ⟨by repeat (first | exact HFi.out | apply Fi.drewN | apply Fi.drew)⟩, ⟨by repeat (first | exact HSm.out | (refine Same.trans ?_ (Same.drewN _ _)))⟩⟩
                 · have e5h := Aside0.mk e5
                   have e5b0 : ((j : Int) == (n : Int) - 1) = false := beq_eq_false_iff_ne.mpr e5
                   have e5b1 : ((j : Int) != (n : Int) - 1) = true := bne_iff_ne.mpr e5
                   clear e5
                   by_cases e9 : (i : Int) = (n : Int) - 1
                   · have e9h := Aside0.mk e9
                     have e9b0 : ((i : Int) == (n : Int) - 1) = true := beq_iff_eq.mpr e9
                     have e9b1 : ((i : Int) != (n : Int) - 1) = false := bne_eq_false_iff_eq.mpr e9
                     clear e9
                     by_cases e10 : b = 1
                     · have e10h := Aside0.mk e10
                       have e10b0 : (b == 1) = true := beq_iff_eq.mpr e10
                       have e10b1 : (b != 1) = false := bne_eq_false_iff_eq.mpr e10
                       clear e10
                       go_wp2
                       repeat (go_quiet (fail); try go_wp2)
                       go_meet
                       case rel => exact ⟨false, rfl, ⟨by have e1q := e1h.out; have e2q := e2h.out; have e3q := e3h.out; have e4q := e4h.out; have e5q := e5h.out; have e9q := e9h.out; have e10q := e10h.out; unfold skipB; exact (decide_eq_false (by omega)).symm⟩, ⟨by repeat (first | exact HFi.out | apply Fi.drewN | apply Fi.drew)⟩, ⟨by repeat (first | exact HSm.out | (refine Same.trans ?_ (Same.drewN _ _)))⟩⟩
                     · have e10h := Aside0.mk e10
                       have e10b0 : (b == 1) = false := beq_eq_false_iff_ne.mpr e10
                       have e10b1 : (b != 1) = true := bne_iff_ne.mpr e10
                       clear e10
                       go_wp2
                       repeat (go_quiet (fail); try go_wp2)
                       go_meet
                       case rel => exact ⟨true, rfl, ⟨by have e1q := e1h.out; have e2q := e2h.out; have e3q := e3h.out; have e4q := e4h.out; have e5q := e5h.out; have e9q := e9h.out; have e10q := e10h.out; unfold skipB; exact (decide_eq_true (by omega)).symm⟩, ⟨by repeat (first | exact HFi.out | apply Fi.drewN | apply Fi.drew)⟩, ⟨by repeat (first | exact HSm.out | (refine Same.trans ?_ (Same.drewN _ _)))⟩⟩
                   · have e9h := Aside0.mk e9
                     have e9b0 : ((i : Int) == (n : Int) - 1) = false := beq_eq_false_iff_ne.mpr e9
                     have e9b1 : ((i : Int) != (n : Int) - 1) = true := bne_iff_ne.mpr e9
                     clear e9
                     go_wp2
                     repeat (go_quiet (fail); try go_wp2)
                     go_meet
                     case rel => exact ⟨false, rfl, ⟨by have e1q := e1h.out; have e2q := e2h.out; have e3q := e3h.out; have e4q := e4h.out; have e5q := e5h.out; have e9q := e9h.out; unfold skipB; exact (decide_eq_false (by omega)).symm⟩, ⟨by repeat (first | exact HFi.out | apply Fi.drewN | apply Fi.drew)⟩, ⟨by repeat (first | exact HSm.out | (refine Same.trans ?_ (Same.drewN _ _)))⟩⟩
        obtain ⟨b9, rfl, HE9, HFc, HSc⟩ := hcut
        clear HFi HSm ha hb haw hbw hn1 hn1w hx
        have HFi := HFc
        have HSm := HSc
        clear HFc HSc
        cases b9 with
        | true =>
         have H := HH.out
         rw [if_pos HE9.out.symm] at H
         have HR := Aside0.mk H
         clear H HH
         go_wp2
         go_roundg k1
         case measure => have := HK.out; omega
         case rel => exact ⟨x + 1, t1, o1, rf_, by omega, by have := X.out; omega, ⟨by have := X.out; omega⟩, ⟨by have := HK.out; omega⟩, HR, HFi, HSm⟩
        | false =>
         have H := HH.out
         rw [if_neg (by rw [← HE9.out]; decide)] at H
         obtain ⟨⟨t2, o2⟩, hy, hz⟩ := Option.bind_eq_some_iff.mp H
         have HR := Aside0.mk hz
         have HY := Aside0.mk hy
         clear H HH hy hz
         obtain ⟨g, c9, hv, hg1, hg2, hx9, hf9, hput⟩ := HFi.out.place (i : Int) (j : Int) (by omega) (by omega) (by omega) (by omega)
         rw [Int.toNat_natCast] at hv hx9 hf9
         have HPUT := Aside0.mk hput
         have HG1 := Aside0.mk (And.intro hg1 hg2)
         clear hput hg1 hg2
         have i2 : decide (i < n) = true := decide_eq_true i1
         have i3 : decide ((i : Int) < (n : Int)) = true := decide_eq_true (by omega)
         have j2 : decide (j < n) = true := decide_eq_true j1
         have j3 : decide ((j : Int) < (n : Int)) = true := decide_eq_true (by omega)
         have hp0 := HPUT.out x
         rw [Int.toNat_natCast, Int.toNat_natCast] at hp0
         have hi := ih.out (p + 1) _ t2 _ o2 u2 _ (by have := P1.out; omega) hp0 HY.out
         have hp1 : ((p + 1 : Nat) : Int) = wrap64 ((p : Int) + 1) := by have := P4.out; unfold wrap64; omega
         rw [hp1] at hi
         have HI := Aside0.mk hi
         have HS2 := Aside0.mk (HSm.out.trans (Same.setCell (K := fun k => k < lo) wc ⟨g, j, none⟩ (.int .i64 x) (fun hk => by have := HG1.out; dsimp only at hk; omega)))
         clear hp0 hi hp1
         go_wp2_with (go_at_call 39; refine HI.out.mono ?_; rintro e w4 ⟨v4, rfl, F4, S4⟩; have HF4 := Aside0.mk F4; have HS4 := Aside0.mk (HS2.out.trans S4); clear F4 S4)
         go_roundg k1
         case measure => have := HK.out; omega
         case rel => exact ⟨x + 1, t2, o2, rf_, by omega, by have := X.out; omega, ⟨by have := X.out; omega⟩, ⟨by have := HK.out; omega⟩, HR, HF4, HS4⟩
     | succ k1 =>
      have hlt : x < i := by have := HK.out; omega
      have hx : decide ((x : Int) < (i : Int)) = true := decide_eq_true (by omega)
      obtain ⟨g, c9, hv, hg1, hg2, hx9, hf9, hput⟩ := hF.out.place (x : Int) (j : Int) (by omega) (by omega) (by omega) (by omega)
      rw [Int.toNat_natCast] at hv hx9
      clear hput hf9 hg1 hg2
      have i2 : decide (x < n) = true := decide_eq_true (by omega)
      have i3 : decide ((x : Int) < (n : Int)) = true := decide_eq_true (by omega)
      have j2 : decide (j < n) = true := decide_eq_true j1
      have j3 : decide ((j : Int) < (n : Int)) = true := decide_eq_true (by omega)
      go_wp2
      go_roundg k1
      case measure => omega
      case rel => exact ⟨x + 1, rf_, rfl, ⟨by have := HK.out; omega⟩, dr_⟩
   | succ k1 =>
    have hlt : x < j := by have := HK.out; omega
    have hx : decide ((x : Int) < (j : Int)) = true := decide_eq_true (by omega)
    obtain ⟨g, c9, hv, hg1, hg2, hx9, hf9, hput⟩ := hF.out.place (i : Int) (x : Int) (by omega) (by omega) (by omega) (by omega)
    rw [Int.toNat_natCast] at hv hx9
    clear hput hf9 hg1 hg2
    have i2 : decide (i < n) = true := decide_eq_true i1
    have i3 : decide ((i : Int) < (n : Int)) = true := decide_eq_true (by omega)
    have j2 : decide (x < n) = true := decide_eq_true (by omega)
    have j3 : decide ((x : Int) < (n : Int)) = true := decide_eq_true (by omega)
    go_wp2
    go_roundg k1
    case measure => omega
    case rel => exact ⟨x + 1, rf_, rfl, ⟨by have := HK.out; omega⟩, dr_⟩

/-- The walk of fill, for a table of n rows and columns. -/
theorem fill_calls {lo mid V cv n : Nat} (hn : 1 ≤ n ∧ n ≤ 1000) (hlm : lo ≤ mid) (k : Nat) : ∀ (p : Nat) (t t' : List (List Int)) (out out' : List (List (List Int))) (vO : Value) (W : World), p ≤ n * n → Fi lo mid V cv n W t vO out → fillF n k p (t, out) = some (t', out') →
 Calls Try.prog 39 #[.slice (some ⟨V, 0, none⟩) n cv, .int .i64 p, vO] W fun e W' => ∃ v, e = .returned v ∧ Fi lo mid V cv n W' t' v out' ∧ Same (fun k => k < lo) W W' := by
 induction k with
 | zero => intro p t t' out out' vO W hp hF h; simp [fillF] at h
 | succ k ih =>
  intro p t t' out out' vO W hp hF h
  simp only [fillF] at h
  by_cases e : p = n * n
  · rw [if_pos e] at h
    subst e
    obtain ⟨u, hu, h⟩ := Option.bind_eq_some_iff.mp h
    by_cases hL : out.length < 5864062014805
    · rw [if_pos hL] at h
      obtain ⟨rfl, rfl⟩ := Prod.mk.inj (Option.some.inj h)
      exact fill_end hn hlm t u out vO W ⟨hF⟩ ⟨hu⟩ ⟨hL⟩
    · rw [if_neg hL] at h
      cases h
  · rw [if_neg e] at h
    obtain ⟨⟨t1, o1⟩, hy, hz⟩ := Option.map_eq_some_iff.mp h
    obtain ⟨rfl, rfl⟩ := Prod.mk.inj hz
    exact fill_step hn hlm (fillF n k) ⟨ih⟩ p (p / n) (p % n) (by omega) ⟨rfl⟩ ⟨rfl⟩ t t1 out o1 vO W ⟨hF⟩ ⟨hy⟩
end Go.Proofs.Ytdinepghommchaa.V

/- fill from the first place on, with an empty list: the contract for its callers. -/
namespace Go.Proofs.Ytdinepghommchaa.V
open Go.RowKit Go.Proofs.YtdinepghommchaaW.PrintWords Go.Proofs.YtdinepghommchaaW.PrintLast Go.Proofs.YtdinepghommchaaW.PrintMore
theorem Same.below0 {b : Nat} {A B : World} (h : Same (fun k => k < b) A B) (hb : b ≤ A.heap.size) : Below b A B := ⟨h.os, h.tape, h.output, h.size, fun k hk => h.block k hk (by omega)⟩
def clocheref09_fill.f (k : Nat) (t : List (List Int)) (p : Int) (out : List (List (List Int))) : Option (List (List (List Int))) :=
  if p = 0 ∧ out = [] ∧ 1 ≤ t.length ∧ t.length ≤ 1000 ∧ (t.all fun r => decide (r.length = t.length)) = true then (fillF t.length 100 0 (t, [])).map (fun z => z.2) else none
theorem clocheref09_fill.own (k lo : Nat) (A : Option Addr) (c : Nat) (t : List (List Int)) (r : List (List (List Int))) (w : World) (h : Kd.S (Kd.slice 3 (Kd.int .i64)) 28 w lo (fun _ => True) (.slice A t.length c) t) (hlo : lo ≤ w.heap.size) (hk : clocheref09_fill.f k t 0 [] = some r) :
    Calls Try.prog 39 #[.slice A t.length c, .int .i64 0, .slice none 0 0] w fun e w' => ∃ v, e = .returned v ∧ Kd.R (Kd.slice 28 (Kd.slice 3 (Kd.int .i64))) 27 w' w.heap.size (fun _ => True) v r ∧ Same (fun k => k < lo) w w' := by
  unfold clocheref09_fill.f at hk
  by_cases hc : ((0 : Int) = 0 ∧ ([] : List (List (List Int))) = [] ∧ 1 ≤ t.length ∧ t.length ≤ 1000 ∧ (t.all fun r => decide (r.length = t.length)) = true)
  · rw [if_pos hc] at hk
    obtain ⟨_, _, h1, h2, h3⟩ := hc
    obtain ⟨⟨t', o'⟩, hy, rfl⟩ := Option.map_eq_some_iff.mp hk
    obtain ⟨g, cap, e, _, _, _⟩ := Kd.S_form h (by omega)
    injection e with eA en ec
    subst eA ec
    have hF : Fi lo w.heap.size g c t.length w t (.slice none 0 0) [] :=
      ⟨Kd.S_mono (Kd.S_bound h) (fun k hk => ⟨hk.2.1, hk.2.2.1⟩), fun i hi => by
        have := List.all_eq_true.mp h3 t[i] (List.getElem_mem hi)
        rw [List.getD_eq_getElem?_getD, List.getElem?_eq_getElem hi]
        simpa using this, Nat.le_refl _, Kd.S_nil _ _ _ _ _⟩
    have z := fill_calls ⟨h1, h2⟩ hlo 100 0 t t' [] o' (.slice none 0 0) w (by omega) hF hy
    exact z.mono fun e w' ⟨v, he, hF', hs⟩ => ⟨v, he, Kd.R_mono (Kd.S_R hF'.out) (fun _ _ => trivial), hs⟩
  · rw [if_neg hc] at hk
    cases hk
end Go.Proofs.Ytdinepghommchaa.V

-- Written by a program of this session over the kit's printer: wip/gp.py.
namespace Go.Proofs.Ytdinepghommchaa.V
open Go.RowKit Go.Proofs.YtdinepghommchaaW.PrintWords Go.Proofs.YtdinepghommchaaW.PrintLast Go.Proofs.YtdinepghommchaaW.PrintMore
attribute [local go_sem] max2_int min2_int max_two min_two max_three min_three max_four min_four   -- for this text's walks alone
set_option linter.unusedVariables false
set_option linter.unusedSimpArgs false

/-! ### clocheref09_zeros: function 40 -/
def clocheref09_zeros.l0 : Nat → Int → List (List Int) → Int → Option ((List (List Int)))
 | 0, _, _, _ => none
 | k + 1, x0, x3, x4 => if x4 < x0 then (if 0 ≤ x0 then (if (x0 : Int).toNat ≤ 35184372088832 then (if x3.length < 5864062014805 then (clocheref09_zeros.l0 k x0 (x3 ++ [(List.replicate (x0 : Int).toNat 0)]) (wrap64 (x4 + 1))) else (none)) else (none)) else (none)) else (some x3)
def clocheref09_zeros.f (k : Nat) (a0 : Int) : Option ((List (List Int))) := clocheref09_zeros.l0 k a0 ([] : List (List Int)) 0
theorem clocheref09_zeros.mono_l : ∀ k, (∀ y0 y1 y2, LeO (clocheref09_zeros.l0 k y0 y1 y2) (clocheref09_zeros.l0 (k + 1) y0 y1 y2))
 | 0 => fun _ _ _ r h => by simp [clocheref09_zeros.l0] at h
 | k + 1 => by
  have ih0 := clocheref09_zeros.mono_l k
  · intro y0 y1 y2
    unfold clocheref09_zeros.l0
    repeat' first
    | (with_reducible exact ih0 _ _ _)
    | (with_reducible exact LeO.refl _)
    | (with_reducible exact LeO.none _)
    | (with_reducible refine LeO.ite ?_ ?_)
    | (with_reducible refine LeO.bind ?_ (fun _ => ?_))
    | exact ih0 _ _ _
    | exact LeO.none _
    | refine LeO.ite ?_ ?_
    | refine LeO.bind ?_ (fun _ => ?_)
theorem clocheref09_zeros.mono : ∀ a0 k, LeO (clocheref09_zeros.f k a0) (clocheref09_zeros.f (k + 1) a0) := by
 intro a0 k
 have ih0 := clocheref09_zeros.mono_l k
 unfold clocheref09_zeros.f
 repeat' first
  | (with_reducible exact ih0 _ _ _)
  | (with_reducible exact LeO.refl _)
  | (with_reducible exact LeO.none _)
  | (with_reducible refine LeO.ite ?_ ?_)
  | (with_reducible refine LeO.bind ?_ (fun _ => ?_))
  | exact ih0 _ _ _
  | exact LeO.none _
  | refine LeO.ite ?_ ?_
  | refine LeO.bind ?_ (fun _ => ?_)
set_option maxHeartbeats 8000000 in
set_option maxRecDepth 100000 in
theorem clocheref09_zeros.calls (k : Nat) (a0 : Int) (r : List (List Int)) (w : World) (h : clocheref09_zeros.f k a0 = some r) :
 Calls Try.prog 40 #[.int .i64 a0] w fun e w' => ∃ v0_ : Value, e = .returned (v0_) ∧ Kd.S (Kd.slice 3 (Kd.int .i64)) 28 w' w.heap.size (fun _ => True) v0_ r ∧ Below w.heap.size w w' := by
 have HB := Aside0.mk (Below.refl w.heap.size w)
 have H : (clocheref09_zeros.l0 k a0 ([] : List (List Int)) 0) = some r := h
 clear h
 have H' := Aside0.mk H
 clear H
 go_enter Try.func40, Try.ntmps40
 go_wp2
 go_loopg [3, 4] k (fun kq v3 v4 w' => ∃ (x3_1 : List (List Int)) (x4_1 : Int), v4 = .int .i64 x4_1 ∧ Aside0 (clocheref09_zeros.l0 kq a0 x3_1 x4_1 = some r) ∧ Aside0 (kq ≤ k) ∧ Aside0 (Kd.S (Kd.slice 3 (Kd.int .i64)) 28 w' w.heap.size (fun _ => True) v3 x3_1) ∧ Aside0 (Below w.heap.size w w'))
 case atStart => exact ⟨(([] : List (List Int))), (0), rf_, H', ⟨Nat.le_refl _⟩, ⟨by first | exact Kd.S_nil _ _ _ _ _ | exact Kd.N_nil _ _ _ _ _ | exact Kd.V_nil _ _ _ _ _ | exact Kd.Q_nil _ _ _ _ _ | exact Kd.R_nil _ _ _ _ _⟩, ⟨bel_⟩⟩
 case round =>
  clear H'
  obtain ⟨x3_1, x4_1, rfl, HA, HK1, HO_3, HB⟩ := hrel
  cases gk with
  | zero => exact absurd HA.out (by simp [clocheref09_zeros.l0])
  | succ k1 =>
    have H := HA.out
    clear HA
    simp only [clocheref09_zeros.l0] at H
    by_cases c2 : x4_1 < a0
    · rw [if_pos c2] at H
      have c2b0 : decide (x4_1 < a0) = true := decide_eq_true c2
      clear c2
      by_cases c3 : 0 ≤ a0
      · rw [if_pos c3] at H
        have c3b0 := eq_true c3
        have c3b1 : decide (0 ≤ a0) = true := decide_eq_true c3
        clear c3
        by_cases c4 : (a0 : Int).toNat ≤ 35184372088832
        · rw [if_pos c4] at H
          have c4b0 := eq_true c4
          have c4b1 : decide ((a0 : Int).toNat ≤ 35184372088832) = true := decide_eq_true c4
          clear c4
          obtain ⟨y108, hy108⟩ : ∃ y_ : List Int, y_ = (List.replicate (a0 : Int).toNat 0) := ⟨_, rfl⟩
          replace H : (if x3_1.length < 5864062014805 then (clocheref09_zeros.l0 k1 a0 (x3_1 ++ [y108]) (wrap64 (x4_1 + 1))) else (none)) = some r := by first | (rw [hy108]; with_reducible exact H) | (have H2_ := (Option.bind_some _ _).symm.trans H; rw [hy108]; with_reducible exact H2_) | (have H2_ := (Option.bind_some _ _).symm.trans H; with_reducible exact H2_) | with_reducible exact H | (rw [hy108]; exact H) | exact H
          have Ny108 := Aside0.mk hy108
          clear hy108
          by_cases c5 : x3_1.length < 5864062014805
          · rw [if_pos c5] at H
            have LMc5 := Aside0.mk c5
            clear c5
            obtain ⟨y111, hy111⟩ : ∃ y_ : List (List Int), y_ = (x3_1 ++ [y108]) := ⟨_, rfl⟩
            replace H : (clocheref09_zeros.l0 k1 a0 y111 (wrap64 (x4_1 + 1))) = some r := by first | (rw [hy111]; with_reducible exact H) | (have H2_ := (Option.bind_some _ _).symm.trans H; rw [hy111]; with_reducible exact H2_) | (have H2_ := (Option.bind_some _ _).symm.trans H; with_reducible exact H2_) | with_reducible exact H | (rw [hy111]; exact H) | exact H
            have Ny111 := Aside0.mk hy111
            clear hy111
            have H' := Aside0.mk H
            clear H
            go_wp2_with (first | ((with_reducible refine gate_dst (N := 12) rfl ?_); refine Kd.R_make (Kd.int .i64) _ 3 rfl (N := 12) rfl 28 _ _ rfl a0 rfl rfl Try.underlying28 (.int .i64 0) 8 info3 rfl (by decide) (by omega) 0 (ok := fun _ => True) (okp := fun _ => True) rfl (fun _ hk => hk) trivial (od_) (Nat.le_trans (Nat.mul_le_mul_right _ (od_ : a0.toNat ≤ 35184372088832)) (by omega)) (Below.refl _ _) (Nat.le_refl _) ?_; intro v109 w6 ho7 hb hg_ hnew_; clear hg_ hnew_; (first | rw [← Ny108.out] at ho7 | (simp only [Int.reduceToNat] at ho7; rw [← Ny108.out] at ho7)); have n0_ := Aside0.mk (Kd.S_elder' (nS_ HO_3.out) (Kd.R_base ho7) hb); have n1_ := Aside0.mk (Kd.R_lower ho7 (below_size (bel_))); have n2_ := Aside0.mk (below_step (bel_) hb); clear HO_3; clear HB; have HO_3 := n0_; have HO110 := n1_; have HB := n2_; clear n0_ n1_ n2_; clear hb ho7; obtain ⟨Ao9, co9, eo9⟩ := Kd.R_slice HO110.out; subst eo9) | ((with_reducible refine gate_builtin (b := .append) (xs := #[.tmp 10, .tmp 13]) rfl ?_); at_builtin; refine Kd.S_append (Kd.slice 3 (Kd.int .i64)) (w0 := w) w.heap.size rfl (.tmp 10) (.tmp 13) 27 28 (.slice none 0 0) 24 rfl Try.underlying27 info28 rfl (by decide) (by omega) u3 x3_1 y108 [.slice Ao9 y108.length co9] (fun _ => True) (fun k_ => some k_ = (.slice Ao9 y108.length co9 : Value).ownBlock) rfl rfl ?aP (fun k_ hk_ => ((Kd.R_mono (ok' := fun k_ => ((fun _ => True)) k_ ∧ some k_ ≠ (u3 : Value).ownBlock) (Kd.R_apart' (HO110.out) (Kd.S_typed HO_3.out) (by decide)) (fun k_ hk => ⟨trivial, hk.2⟩))).1 k_ hk_.symm) ?aF ?aO ?aB ?aS ?aL ?_; (case aP => exact Kd.M_row (Kd.R_mono (Kd.R_tight rfl (Kd.R_mono (ok' := fun k_ => ((fun _ => True)) k_ ∧ some k_ ≠ (u3 : Value).ownBlock) (Kd.R_apart' (HO110.out) (Kd.S_typed HO_3.out) (by decide)) (fun k_ hk => ⟨trivial, hk.2⟩))) (fun _ h_ => h_))); (case aB => exact (bel_)); (case aF => exact (fun _ _ => trivial)); (case aO => exact (by (with_reducible repeat (first | apply Kd.S_alloc | apply Kd.S_drewN | apply Kd.S_drew)); exact Kd.S_mono HO_3.out (fun k_ hk => ⟨trivial, fun e_ => hk.2 e_⟩))); (case aS => exact (below_size (bel_))); (case aL => have := LMc5.out; omega); intro v112 w8 ho hb hg hat; rw [← Ny111.out] at ho; have n0_ := Aside0.mk (hb); have n1_ := Aside0.mk (ho); clear HB; clear HO_3; clear HO110; have HB := n0_; have HO113 := n1_; clear n0_ n1_; clear ho hb hg hat))
            go_roundg k1
            case measure => have := HK1.out; omega
            case rel => exact ⟨(y111), (wrap64 (x4_1 + 1)), rf_, H', ⟨by have := HK1.out; omega⟩, ⟨nS_ HO113.out⟩, ⟨bel_⟩⟩
          · rw [if_neg c5] at H
            exact absurd H (by simp)
        · rw [if_neg c4] at H
          exact absurd H (by simp)
      · rw [if_neg c3] at H
        exact absurd H (by simp)
    · rw [if_neg c2] at H
      have c2b0 : decide (x4_1 < a0) = false := decide_eq_false c2
      clear c2
      obtain rfl := Option.some.inj H
      go_wp2
      go_ret
      exact ⟨_, er_, by (with_reducible repeat (first | apply Kd.S_alloc | apply Kd.S_drewN | apply Kd.S_drew)); exact HO_3.out, bel_⟩

end Go.Proofs.Ytdinepghommchaa.V

-- Written by a program of this session over the kit's printer: wip/gp.py.
namespace Go.Proofs.Ytdinepghommchaa.V
open Go.RowKit Go.Proofs.YtdinepghommchaaW.PrintWords Go.Proofs.YtdinepghommchaaW.PrintLast Go.Proofs.YtdinepghommchaaW.PrintMore
attribute [local go_sem] max2_int min2_int max_two min_two max_three min_three max_four min_four   -- for this text's walks alone
set_option linter.unusedVariables false
set_option linter.unusedSimpArgs false

/-! ### clocheref09_All: function 12 -/
def clocheref09_All.j0 : Nat → Int → Bool → Option ((List (List (List Int))) × Int)
 | 0, _, _ => none
 | k + 1, x0, x9 => if x9 = true then (some (([] : List (List (List Int))), 2)) else ((clocheref09_zeros.f k x0).bind fun t114 => ((clocheref09_fill.f k t114 0 ([] : List (List (List Int)))).bind fun t117 => (some (t117, 0))))
def clocheref09_All.f (k : Nat) (a0 : Int) : Option ((List (List (List Int))) × Int) := if a0 < 1 then (clocheref09_All.j0 k a0 true) else (clocheref09_All.j0 k a0 (decide (a0 > 5)))
set_option maxHeartbeats 8000000 in
set_option maxRecDepth 100000 in
theorem clocheref09_All.calls (k : Nat) (a0 : Int) (r1 : List (List (List Int))) (r2 : Int) (w : World) (h : clocheref09_All.f k a0 = some (r1, r2)) :
 Calls Try.prog 12 #[.int .i64 a0] w fun e w' => ∃ v0_ : Value, e = .returned (.tuple #[v0_, .int .i64 r2]) ∧ Kd.R (Kd.slice 28 (Kd.slice 3 (Kd.int .i64))) 27 w' w.heap.size (fun _ => True) v0_ r1 ∧ Below w.heap.size w w' := by
 have HB := Aside0.mk (Below.refl w.heap.size w)
 have H : (if a0 < 1 then (clocheref09_All.j0 k a0 true) else (clocheref09_All.j0 k a0 (decide (a0 > 5)))) = some (r1, r2) := h
 clear h
 have HC2 := Aside0.mk H
 clear H
 go_enter Try.func12, Try.ntmps12
 go_upto_region 1 with (fail)
 go_cut [9] (fun v9 wc => ∃ (kq : Nat) (x9_1 : Bool), v9 = .bool x9_1 ∧ Aside0 (clocheref09_All.j0 kq a0 x9_1 = some (r1, r2)) ∧ Aside0 (kq ≤ k) ∧ Aside0 (Below w.heap.size w wc))
 case first =>
  have H := HC2.out
  clear HC2
  by_cases c3 : a0 < 1
  · rw [if_pos c3] at H
    have c3b0 : decide (a0 < 1) = true := decide_eq_true c3
    clear c3
    (first | rw [c3b0] | (simp only [i64_w, i32_w]; rw [c3b0]) | skip)
    have H' := Aside0.mk H
    clear H
    go_wp2
    go_meet
    case rel => exact ⟨_, (true), rf_, H', ⟨by first | omega | exact Nat.le_refl _⟩, ⟨bel_⟩⟩
  · rw [if_neg c3] at H
    have c3b0 : decide (a0 < 1) = false := decide_eq_false c3
    clear c3
    (first | rw [c3b0] | (simp only [i64_w, i32_w]; rw [c3b0]) | skip)
    have H' := Aside0.mk H
    clear H
    go_wp2
    go_meet
    case rel => exact ⟨_, (decide (a0 > 5)), rf_, H', ⟨by first | omega | exact Nat.le_refl _⟩, ⟨bel_⟩⟩
 case rest =>
  clear HC2
  try clear c1
  try clear p2
  try clear c3
  try clear c3b0
  obtain ⟨kq, x9_1, rfl, HA, HJ1, HB⟩ := hcut
  cases kq with
  | zero => exact absurd HA.out (by simp [clocheref09_All.j0])
  | succ kj1 =>
    have H := HA.out
    clear HA
    simp only [clocheref09_All.j0] at H
    by_cases c4 : x9_1 = true
    · subst c4
      have H1 : (some (([] : List (List (List Int))), 2)) = some (r1, r2) := by rw [if_pos rfl] at H; exact H
      clear H
      have H := H1
      clear H1
      simp only [Option.some.injEq, Prod.mk.injEq] at H
      obtain ⟨rfl, rfl⟩ := H
      go_wp2
      go_ret2
      exact ⟨_, er_, by first | exact Kd.R_nil _ _ _ _ _ | exact Kd.N_nil _ _ _ _ _ | exact Kd.V_nil _ _ _ _ _ | exact Kd.Q_nil _ _ _ _ _ | exact Kd.S_nil _ _ _ _ _, bel_⟩
    · replace c4 := Bool.eq_false_iff.mpr c4
      subst c4
      have H1 : ((clocheref09_zeros.f kj1 a0).bind fun t114 => ((clocheref09_fill.f kj1 t114 0 ([] : List (List (List Int)))).bind fun t117 => (some (t117, 0)))) = some (r1, r2) := by rw [if_neg (show ¬ (false = true) by decide)] at H; exact H
      clear H
      have H := H1
      clear H1
      replace H := Option.bind_eq_some_iff.mp H
      obtain ⟨t114, A50, H⟩ := H
      replace H : ((clocheref09_fill.f kj1 t114 0 ([] : List (List (List Int)))).bind fun t117 => (some (t117, 0))) = some (r1, r2) := H
      have A5 := Aside0.mk A50
      clear A50
      replace H := Option.bind_eq_some_iff.mp H
      obtain ⟨t117, A60, H⟩ := H
      replace H : (some (t117, 0)) = some (r1, r2) := H
      have A6 := Aside0.mk A60
      clear A60
      simp only [Option.some.injEq, Prod.mk.injEq] at H
      obtain ⟨rfl, rfl⟩ := H
      go_wp2_with (first | ((with_reducible refine gate_callee (f := 40) rfl ?_); refine goesL_ (some 11) rfl rfl Try.func40 (by kernel_rfl) rfl #[.int .i64 a0] rfl ar_ ?_; (with_reducible refine (clocheref09_zeros.calls kj1 a0 t114 _ A5.out).mono ?_); rintro e w7 ⟨v115, rfl, ho0, hb⟩; refine ⟨_, rfl, ?_⟩; have n0_ := Aside0.mk (Kd.S_lower ho0 (below_size (bel_))); have n1_ := Aside0.mk (below_step (bel_) hb); clear HB; have HO116 := n0_; have HB := n1_; clear n0_ n1_; (try clear hb); (try clear hb2); (try clear hk); (try clear hi); (try clear ho0); obtain ⟨Ao8, co8, eo8⟩ := Kd.S_slice HO116.out; subst eo8) | ((with_reducible refine gate_callee (f := 39) rfl ?_); refine goesL_ (some 12) rfl rfl Try.func39 (by kernel_rfl) rfl #[.slice Ao8 t114.length co8, .int .i64 0, .slice none 0 0] rfl ar_ ?_; (refine (clocheref09_fill.own kj1 w.heap.size _ _ t114 t117 _ ?side1 ?side2 A6.out).mono ?_); (case side1 => exact Kd.S_mono HO116.out (fun _ _ => trivial)); (case side2 => exact HB.out.size); rintro e w9 ⟨v118, rfl, ho0, hb⟩; refine ⟨_, rfl, ?_⟩; have n1_ := Aside0.mk (Kd.R_lower ho0 HB.out.size); have n2_ := Aside0.mk (HB.out.trans (hb.below0 HB.out.size)); clear HO116; clear HB; have HO119 := n1_; have HB := n2_; clear n1_ n2_; (try clear hb); (try clear hb2); (try clear hk); (try clear hi); (try clear ho0)))
      go_ret2
      exact ⟨_, er_, by (with_reducible repeat (first | apply Kd.R_alloc | apply Kd.R_drewN | apply Kd.R_drew)); exact Kd.R_mono HO119.out (fun _ hk => trivial), bel_⟩

end Go.Proofs.Ytdinepghommchaa.V

-- Written by a program of this session over the kit's printer: wip/gp.py.
namespace Go.Proofs.Ytdinepghommchaa.V
open Go.RowKit Go.Proofs.YtdinepghommchaaW.PrintWords Go.Proofs.YtdinepghommchaaW.PrintLast Go.Proofs.YtdinepghommchaaW.PrintMore
attribute [local go_sem] max2_int min2_int max_two min_two max_three min_three max_four min_four   -- for this text's walks alone
set_option linter.unusedVariables false
set_option linter.unusedSimpArgs false

/-! ### clochelaw09_VeilsAll: function 3 -/
mutual
def clochelaw09_VeilsAll.l0 : Nat → Int → List (List (List Int)) → Int → Int → Option (Bool)
 | 0, _, _, _, _ => none
 | k + 1, x0, x3, x4, x5 => if x5 < 2 then ((veils_All.f x0).bind fun bt181 => (if (bt181.1.length : Int) = (x3.length : Int) then (clochelaw09_VeilsAll.j1 k x0 x3 x4 x5 bt181.1 (bt181.2 != x4)) else (clochelaw09_VeilsAll.j1 k x0 x3 x4 x5 bt181.1 true))) else ((clochelaw09_alive.f).bind fun t180 => (some t180))
def clochelaw09_VeilsAll.j1 : Nat → Int → List (List (List Int)) → Int → Int → List (List (List Int)) → Bool → Option (Bool)
 | 0, _, _, _, _, _, _ => none
 | k + 1, x0, x3, x4, x5, x6, x32 => if x32 = true then (some false) else (clochelaw09_VeilsAll.l1 k x0 x3 x4 x5 x6 0)
def clochelaw09_VeilsAll.l1 : Nat → Int → List (List (List Int)) → Int → Int → List (List (List Int)) → Int → Option (Bool)
 | 0, _, _, _, _, _, _ => none
 | k + 1, x0, x3, x4, x5, x6, x8 => if x8 < (x6.length : Int) then (if 0 ≤ x8 then (if x8 < (x3.length : Int) then ((clocheref09_Same.f k (rd_L2 x6 x8) (rd_L2 x3 x8)).bind fun t187 => (if t187 = true then (if 0 < ((rd_L2 x6 x8).length : Int) then (if 0 < ((rd_L1 (rd_L2 x6 x8) 0).length : Int) then (clochelaw09_VeilsAll.l1 k x0 x3 x4 x5 x6 (wrap64 (x8 + 1))) else (none)) else (none)) else (some false))) else (none)) else (none)) else (clochelaw09_VeilsAll.l0 k x0 x3 x4 (wrap64 (x5 + 1)))
end
def clochelaw09_VeilsAll.f (k : Nat) (a0 : Int) : Option (Bool) := (clocheref09_All.f k a0).bind fun bt176 => (clochelaw09_VeilsAll.l0 k a0 bt176.1 bt176.2 0)
set_option maxHeartbeats 8000000 in
set_option maxRecDepth 100000 in
theorem clochelaw09_VeilsAll.calls (k : Nat) (a0 : Int) (w : World) (h : clochelaw09_VeilsAll.f k a0 = some true) :
 Calls Try.prog 3 #[.int .i64 a0] w fun e w' => e = .returned (.bool true) ∧ Below w.heap.size w w' := by
 have HB := Aside0.mk (Below.refl w.heap.size w)
 have H : ((clocheref09_All.f k a0).bind fun bt176 => (clochelaw09_VeilsAll.l0 k a0 bt176.1 bt176.2 0)) = some true := h
 clear h
 replace H := Option.bind_eq_some_iff.mp H
 obtain ⟨⟨t176, t177⟩, A20, H⟩ := H
 replace H : (clochelaw09_VeilsAll.l0 k a0 t176 t177 0) = some true := H
 have A2 := Aside0.mk A20
 clear A20
 have H' := Aside0.mk H
 clear H
 go_enter Try.func3, Try.ntmps3
 go_wp2_with (first | (go_at_call 12; (with_reducible refine (clocheref09_All.calls k a0 t176 t177 _ A2.out).mono ?_); rintro e w3 ⟨v178, rfl, ho0, hb⟩; have n0_ := Aside0.mk (Kd.R_lower ho0 (below_size (bel_))); have n1_ := Aside0.mk (below_step (bel_) hb); clear HB; have HO179 := n0_; have HB := n1_; clear n0_ n1_; (try clear hb); (try clear hb2); (try clear hk); (try clear hi); (try clear ho0)))
 repeat (go_quiet (first | (go_at_call 12; (with_reducible refine (clocheref09_All.calls k a0 t176 t177 _ A2.out).mono ?_); rintro e w3 ⟨v178, rfl, ho0, hb⟩; have n0_ := Aside0.mk (Kd.R_lower ho0 (below_size (bel_))); have n1_ := Aside0.mk (below_step (bel_) hb); clear HB; have HO179 := n0_; have HB := n1_; clear n0_ n1_; (try clear hb); (try clear hb2); (try clear hk); (try clear hi); (try clear ho0))); try go_wp2_with (first | (go_at_call 12; (with_reducible refine (clocheref09_All.calls k a0 t176 t177 _ A2.out).mono ?_); rintro e w3 ⟨v178, rfl, ho0, hb⟩; have n0_ := Aside0.mk (Kd.R_lower ho0 (below_size (bel_))); have n1_ := Aside0.mk (below_step (bel_) hb); clear HB; have HO179 := n0_; have HB := n1_; clear n0_ n1_; (try clear hb); (try clear hb2); (try clear hk); (try clear hi); (try clear ho0))))
 go_loopg [5] k (fun kq v5 w' => ∃ (x5_1 : Int), v5 = .int .i64 x5_1 ∧ Aside0 (clochelaw09_VeilsAll.l0 kq a0 t176 t177 x5_1 = some true) ∧ Aside0 (kq ≤ k) ∧ Aside0 (Kd.R (Kd.slice 28 (Kd.slice 3 (Kd.int .i64))) 27 w' w.heap.size (fun _ => True) v178 t176) ∧ Aside0 (Below w.heap.size w w'))
 case atStart => exact ⟨(0), rf_, H', ⟨Nat.le_refl _⟩, ⟨nR_ HO179.out⟩, ⟨bel_⟩⟩
 case round =>
  clear H'
  try clear p2
  try clear c3
  obtain ⟨x5_1, rfl, HA, HK1, HO_3, HB⟩ := hrel
  cases gk with
  | zero => exact absurd HA.out (by simp [clochelaw09_VeilsAll.l0])
  | succ k1 =>
   have H := HA.out
   clear HA
   simp only [clochelaw09_VeilsAll.l0] at H
   by_cases c4 : x5_1 < 2
   · rw [if_pos c4] at H
     have c4b0 : decide (x5_1 < 2) = true := decide_eq_true c4
     clear c4
     replace H := Option.bind_eq_some_iff.mp H
     obtain ⟨⟨t181, t182⟩, A50, H⟩ := H
     replace H : (if (t181.length : Int) = (t176.length : Int) then (clochelaw09_VeilsAll.j1 k1 a0 t176 t177 x5_1 t181 (t182 != t177)) else (clochelaw09_VeilsAll.j1 k1 a0 t176 t177 x5_1 t181 true)) = some true := H
     have A5 := Aside0.mk A50
     clear A50
     have HC6 := Aside0.mk H
     clear H
     go_upto_region 6 with (first | (go_at_call 13; (with_reducible refine (veils_All.callsS a0 t181 t182 _ A5.out).mono ?_); rintro e w7 ⟨v183, rfl, ho0, hb⟩; obtain ⟨mid, HMB, n0_, n1_⟩ := mid_of (nR_ HO_3.out) ho0 hb (below_size (bel_)); have n2_ := Aside0.mk (below_step (bel_) hb); clear HO_3; clear HB; have HO_3 := n0_; have HO184 := n1_; have HB := n2_; clear n0_ n1_ n2_; (try clear hb); (try clear hb2); (try clear hk); (try clear hi); (try clear ho0)))
     repeat (go_quiet (first | (go_at_call 13; (with_reducible refine (veils_All.callsS a0 t181 t182 _ A5.out).mono ?_); rintro e w7 ⟨v183, rfl, ho0, hb⟩; obtain ⟨mid, HMB, n0_, n1_⟩ := mid_of (nR_ HO_3.out) ho0 hb (below_size (bel_)); have n2_ := Aside0.mk (below_step (bel_) hb); clear HO_3; clear HB; have HO_3 := n0_; have HO184 := n1_; have HB := n2_; clear n0_ n1_ n2_; (try clear hb); (try clear hb2); (try clear hk); (try clear hi); (try clear ho0))); go_upto_region 6 with (first | (go_at_call 13; (with_reducible refine (veils_All.callsS a0 t181 t182 _ A5.out).mono ?_); rintro e w7 ⟨v183, rfl, ho0, hb⟩; obtain ⟨mid, HMB, n0_, n1_⟩ := mid_of (nR_ HO_3.out) ho0 hb (below_size (bel_)); have n2_ := Aside0.mk (below_step (bel_) hb); clear HO_3; clear HB; have HO_3 := n0_; have HO184 := n1_; have HB := n2_; clear n0_ n1_ n2_; (try clear hb); (try clear hb2); (try clear hk); (try clear hi); (try clear ho0))))
     (try simp only [Act.put, List.setIfInBounds_toArray, List.set_cons_zero, List.set_cons_succ])
     go_cut [32] (fun v32 wc => ∃ (kq : Nat) (x32_5 : Bool), v32 = .bool x32_5 ∧ Aside0 (clochelaw09_VeilsAll.j1 kq a0 t176 t177 x5_1 t181 x32_5 = some true) ∧ Aside0 (kq ≤ k1) ∧ Aside0 (Kd.R (Kd.slice 28 (Kd.slice 3 (Kd.int .i64))) 27 wc w.heap.size (fun k_ => k_ < mid) v178 t176) ∧ Aside0 (Kd.S (Kd.slice 28 (Kd.slice 3 (Kd.int .i64))) 27 wc w.heap.size (fun k_ => mid ≤ k_) v183 t181) ∧ Aside0 (Below w.heap.size w wc))
     case first =>
      have H := HC6.out
      clear HC6
      by_cases c8 : (t181.length : Int) = (t176.length : Int)
      · rw [if_pos c8] at H
        have c8b0 : ((t181.length : Int) == (t176.length : Int)) = true := beq_iff_eq.mpr c8
        have c8b1 : ((t181.length : Int) != (t176.length : Int)) = false := bne_eq_false_iff_eq.mpr c8
        have c8b2 : (t181.length == t176.length) = true := by first | simpa using c8 | (simp at c8 ⊢; omega)
        clear c8
        (first | rw [c8b0] | (simp only [i64_w, i32_w]; rw [c8b0]) | skip)
        have H' := Aside0.mk H
        clear H
        obtain ⟨Ao9, co9, eo9⟩ := Kd.S_slice HO184.out
        subst eo9
        obtain ⟨Ao10, co10, eo10⟩ := Kd.R_slice HO_3.out
        subst eo10
        go_wp2
        repeat (go_quiet (fail); try go_wp2)
        go_meet
        case rel => exact ⟨_, ((t182 != t177)), rf_, H', ⟨by have := HK1.out; first | omega | exact Nat.le_refl _⟩, ⟨nR_ HO_3.out⟩, ⟨nS_ HO184.out⟩, ⟨bel_⟩⟩
      · rw [if_neg c8] at H
        have c8b0 : ((t181.length : Int) == (t176.length : Int)) = false := beq_eq_false_iff_ne.mpr c8
        have c8b1 : ((t181.length : Int) != (t176.length : Int)) = true := bne_iff_ne.mpr c8
        have c8b2 : (t181.length == t176.length) = false := by first | simpa using c8 | (simp at c8 ⊢; omega)
        (first | rw [c8b0] | (simp only [i64_w, i32_w]; rw [c8b0]) | skip)
        have H' := Aside0.mk H
        clear H
        obtain ⟨Ao11, co11, eo11⟩ := Kd.S_slice HO184.out
        subst eo11
        obtain ⟨Ao12, co12, eo12⟩ := Kd.R_slice HO_3.out
        subst eo12
        go_wp2
        repeat (go_quiet (fail); try go_wp2)
        go_meet
        case rel => exact ⟨_, (true), rf_, H', ⟨by have := HK1.out; first | omega | exact Nat.le_refl _⟩, ⟨nR_ HO_3.out⟩, ⟨nS_ HO184.out⟩, ⟨bel_⟩⟩
     case rest =>
      clear HC6
      try clear p2
      try clear c3
      try clear c4
      try clear c4b0
      try clear c8
      try clear c8b0
      try clear c8b1
      try clear c8b2
      try clear p2
      obtain ⟨kq, x32_5, rfl, HA, HJ5, HO_3, HO_6, HB⟩ := hcut
      cases kq with
      | zero => exact absurd HA.out (by simp [clochelaw09_VeilsAll.j1])
      | succ kj5 =>
        have H := HA.out
        clear HA
        simp only [clochelaw09_VeilsAll.j1] at H
        by_cases c13 : x32_5 = true
        · subst c13
          have H1 : (some false) = some true := by rw [if_pos rfl] at H; exact H
          clear H
          have H := H1
          clear H1
          exact absurd (Option.some.inj H) (by decide)
        · replace c13 := Bool.eq_false_iff.mpr c13
          subst c13
          have H1 : (clochelaw09_VeilsAll.l1 kj5 a0 t176 t177 x5_1 t181 0) = some true := by rw [if_neg (show ¬ (false = true) by decide)] at H; exact H
          clear H
          have H := H1
          clear H1
          have H' := Aside0.mk H
          clear H
          have HLEN := Aside0.mk (row_small (Kd.S_R HO_6.out))
          obtain ⟨AoV, coV, eoV⟩ := Kd.S_slice HO_6.out
          subst eoV
          go_wp2
          repeat (go_quiet (fail); try go_wp2)
          go_loopg [8] kj5 (fun kq v8 w' => ∃ (x8_3 : Int), v8 = .int .i64 x8_3 ∧ Aside0 (clochelaw09_VeilsAll.l1 kq a0 t176 t177 x5_1 t181 x8_3 = some true) ∧ Aside0 (kq ≤ kj5) ∧ Aside0 (Kd.R (Kd.slice 28 (Kd.slice 3 (Kd.int .i64))) 27 w' w.heap.size (fun k_ => k_ < mid) v178 t176) ∧ Aside0 (Iv w' w.heap.size mid (.slice AoV t181.length coV) t181 x8_3) ∧ Aside0 (Below w.heap.size w w'))
          case atStart => exact ⟨(0), rf_, H', ⟨Nat.le_refl _⟩, ⟨nR_ HO_3.out⟩, ⟨by repeat (first | exact Iv.of_S HO_6.out | apply Iv.drewN | apply Iv.drew)⟩, ⟨bel_⟩⟩
          case round =>
           clear H'
           try clear c1
           try clear p2
           try clear c3
           try clear c4
           try clear c4b0
           try clear c8
           try clear c8b0
           try clear c8b1
           try clear c8b2
           try clear c13
           try clear p2
           obtain ⟨x8_3, rfl, HA, HK3, HO_3, HO_6, HB⟩ := hrel
           cases gk with
           | zero => exact absurd HA.out (by simp [clochelaw09_VeilsAll.l1])
           | succ k3 =>
            have H := HA.out
            clear HA
            simp only [clochelaw09_VeilsAll.l1] at H
            by_cases c14 : x8_3 < (t181.length : Int)
            · rw [if_pos c14] at H
              have c14b0 : decide (x8_3 < (t181.length : Int)) = true := decide_eq_true c14
              clear c14
              by_cases c15 : 0 ≤ x8_3
              · rw [if_pos c15] at H
                have c15b0 : decide (0 ≤ x8_3) = true := decide_eq_true c15
                clear c15
                by_cases c16 : x8_3 < (t176.length : Int)
                · rw [if_pos c16] at H
                  have c16b0 : decide (x8_3 < (t176.length : Int)) = true := decide_eq_true c16
                  clear c16
                  replace H := Option.bind_eq_some_iff.mp H
                  obtain ⟨t187, A170, H⟩ := H
                  replace H : (if t187 = true then (if 0 < ((rd_L2 t181 x8_3).length : Int) then (if 0 < ((rd_L1 (rd_L2 t181 x8_3) 0).length : Int) then (clochelaw09_VeilsAll.l1 k3 a0 t176 t177 x5_1 t181 (wrap64 (x8_3 + 1))) else (none)) else (none)) else (some false)) = some true := H
                  have A17 := Aside0.mk A170
                  clear A170
                  by_cases c18 : t187 = true
                  · subst c18
                    have H1 : (if 0 < ((rd_L2 t181 x8_3).length : Int) then (if 0 < ((rd_L1 (rd_L2 t181 x8_3) 0).length : Int) then (clochelaw09_VeilsAll.l1 k3 a0 t176 t177 x5_1 t181 (wrap64 (x8_3 + 1))) else (none)) else (none)) = some true := by rw [if_pos rfl] at H; exact H
                    clear H
                    have H := H1
                    clear H1
                    by_cases c19 : 0 < ((rd_L2 t181 x8_3).length : Int)
                    · rw [if_pos c19] at H
                      have c19b0 : decide (0 < ((rd_L2 t181 x8_3).length : Int)) = true := decide_eq_true c19
                      have c19b1 : decide (0 < (rd_L2 t181 x8_3).length) = true := decide_eq_true (by omega)
                      clear c19
                      by_cases c20 : 0 < ((rd_L1 (rd_L2 t181 x8_3) 0).length : Int)
                      · rw [if_pos c20] at H
                        have c20b0 : decide (0 < ((rd_L1 (rd_L2 t181 x8_3) 0).length : Int)) = true := decide_eq_true c20
                        have c20b1 : decide (0 < (rd_L1 (rd_L2 t181 x8_3) 0).length) = true := decide_eq_true (by omega)
                        clear c20
                        have H' := Aside0.mk H
                        clear H
                        obtain ⟨g, co, g1, c, g2, c2, ev, hx185_0, hl185_0, hi185_0, hx189_0, hx190_0, hf190_0, hm2, hb2, hset⟩ := Iv.at_ HO_6.out (of_decide_eq_true c15b0) (of_decide_eq_true c14b0) (of_decide_eq_true c19b1) (of_decide_eq_true c20b1)
                        injection ev with eA_ en_ ec_
                        subst eA_ ec_
                        clear en_
                        have HR185_0 := Aside0.mk hi185_0
                        have HC185_0 := Aside0.mk hl185_0
                        have HSET := Aside0.mk hset
                        have HG2 := Aside0.mk (And.intro hm2 hb2)
                        clear hi185_0 hl185_0 hset hm2 hb2
                        have W8 : Aside0 (wrap64 (x8_3 + 1) = x8_3 + 1) := ⟨by have := HLEN.out; have := of_decide_eq_true c14b0; have := of_decide_eq_true c15b0; unfold wrap64; omega⟩
                        have p189 : (0 < (rd_L2 t181 x8_3).length) = True := eq_true (of_decide_eq_true c19b1)
                        have q189 : (0 < (rd_L1 (rd_L2 t181 x8_3) 0).length) = True := eq_true (of_decide_eq_true c20b1)
                        have p185 : (0 ≤ x8_3) = True := eq_true (of_decide_eq_true c15b0)
                        have q185 : (x8_3 < (t181.length : Int)) = True := eq_true (of_decide_eq_true c14b0)
                        obtain ⟨Ao22, co22, eo22⟩ := Kd.R_slice HO_3.out
                        subst eo22
                        have p186 : 0 ≤ (x8_3 : Int) := od_
                        have q186 : x8_3 < (t176.length : Int) := od_
                        obtain ⟨ad186, A186_0, c186_0, e186, hx186_0, hl186_0, hi186_0⟩ := at_L2 (Kd.R_reads' HO_3.out).2.2 x8_3 p186 q186
                        cases e186
                        obtain ⟨ce186, hce186, hMe186, hcc186⟩ := Kd.R_get HO_3.out [] x8_3 p186 (by first | exact q186 | exact od_ | (have e_ := (Kd.R_reads' HO_3.out).1; omega))
                        obtain ⟨ve186_0, rfl, ge186_0⟩ := hMe186
                        have hv186_0 := hcc186 0 _ rfl
                        rw [Nat.add_zero, show ((Kd.slice 28 (Kd.slice 3 (Kd.int .i64)))).sz = 1 from rfl, Nat.mul_one] at hv186_0
                        replace hv186_0 := Option.some.inj (hv186_0.symm.trans hx186_0)
                        rw [hv186_0] at ge186_0
                        have HL186_0 := Aside0.mk (show Kd.R (Kd.slice 3 (Kd.int .i64)) 28 _ _ _ _ (rd_L2 t176 x8_3) from ge186_0)
                        clear hv186_0 ge186_0
                        clear hcc186 hce186
                        have HR186_0 := Aside0.mk hi186_0
                        have HC186_0 := Aside0.mk hl186_0
                        clear hi186_0 hl186_0
                        replace p186 := eq_true p186
                        replace q186 := eq_true q186
                        go_wp2_with (first | (go_at_call 14; (with_reducible refine (clocheref09_Same.calls k3 _ _ (rd_L2 t181 x8_3) _ _ (rd_L2 t176 x8_3) true _ ?side1 ?side2 ?side3 ?side4 A17.out).mono ?_); (case side1 => repeat (first | exact (by repeat (first | (with_reducible exact HR185_0.out) | (with_reducible refine Kd.C_alloc ?_ _) | (with_reducible refine Kd.C_drewN ?_ _) | (with_reducible refine Kd.C_drew ?_) | exact HR185_0.out)) | (with_reducible refine Kd.C_alloc ?_ _) | (with_reducible refine Kd.C_drewN ?_ _) | (with_reducible refine Kd.C_drew ?_))); (case side2 => exact HC185_0.out); (case side3 => repeat (first | exact (by repeat (first | (with_reducible exact HR186_0.out) | (with_reducible refine Kd.C_alloc ?_ _) | (with_reducible refine Kd.C_drewN ?_ _) | (with_reducible refine Kd.C_drew ?_) | exact HR186_0.out)) | (with_reducible refine Kd.C_alloc ?_ _) | (with_reducible refine Kd.C_drewN ?_ _) | (with_reducible refine Kd.C_drew ?_))); (case side4 => exact HC186_0.out); rintro e w' ⟨rfl, ⟨nd, rfl⟩⟩; (try first | exact ⟨rfl, _, World.drewN_drewN _ _ _⟩ | exact ⟨rfl, _, Eq.trans (World.drewN_drewN _ _ _) (congrArg (World.drewN _) (Nat.add_assoc _ _ _))⟩)))
                        repeat (go_quiet (first | (go_at_call 14; (with_reducible refine (clocheref09_Same.calls k3 _ _ (rd_L2 t181 x8_3) _ _ (rd_L2 t176 x8_3) true _ ?side1 ?side2 ?side3 ?side4 A17.out).mono ?_); (case side1 => repeat (first | exact (by repeat (first | (with_reducible exact HR185_0.out) | (with_reducible refine Kd.C_alloc ?_ _) | (with_reducible refine Kd.C_drewN ?_ _) | (with_reducible refine Kd.C_drew ?_) | exact HR185_0.out)) | (with_reducible refine Kd.C_alloc ?_ _) | (with_reducible refine Kd.C_drewN ?_ _) | (with_reducible refine Kd.C_drew ?_))); (case side2 => exact HC185_0.out); (case side3 => repeat (first | exact (by repeat (first | (with_reducible exact HR186_0.out) | (with_reducible refine Kd.C_alloc ?_ _) | (with_reducible refine Kd.C_drewN ?_ _) | (with_reducible refine Kd.C_drew ?_) | exact HR186_0.out)) | (with_reducible refine Kd.C_alloc ?_ _) | (with_reducible refine Kd.C_drewN ?_ _) | (with_reducible refine Kd.C_drew ?_))); (case side4 => exact HC186_0.out); rintro e w' ⟨rfl, ⟨nd, rfl⟩⟩; (try first | exact ⟨rfl, _, World.drewN_drewN _ _ _⟩ | exact ⟨rfl, _, Eq.trans (World.drewN_drewN _ _ _) (congrArg (World.drewN _) (Nat.add_assoc _ _ _))⟩))); try go_wp2_with (first | (go_at_call 14; (with_reducible refine (clocheref09_Same.calls k3 _ _ (rd_L2 t181 x8_3) _ _ (rd_L2 t176 x8_3) true _ ?side1 ?side2 ?side3 ?side4 A17.out).mono ?_); (case side1 => repeat (first | exact (by repeat (first | (with_reducible exact HR185_0.out) | (with_reducible refine Kd.C_alloc ?_ _) | (with_reducible refine Kd.C_drewN ?_ _) | (with_reducible refine Kd.C_drew ?_) | exact HR185_0.out)) | (with_reducible refine Kd.C_alloc ?_ _) | (with_reducible refine Kd.C_drewN ?_ _) | (with_reducible refine Kd.C_drew ?_))); (case side2 => exact HC185_0.out); (case side3 => repeat (first | exact (by repeat (first | (with_reducible exact HR186_0.out) | (with_reducible refine Kd.C_alloc ?_ _) | (with_reducible refine Kd.C_drewN ?_ _) | (with_reducible refine Kd.C_drew ?_) | exact HR186_0.out)) | (with_reducible refine Kd.C_alloc ?_ _) | (with_reducible refine Kd.C_drewN ?_ _) | (with_reducible refine Kd.C_drew ?_))); (case side4 => exact HC186_0.out); rintro e w' ⟨rfl, ⟨nd, rfl⟩⟩; (try first | exact ⟨rfl, _, World.drewN_drewN _ _ _⟩ | exact ⟨rfl, _, Eq.trans (World.drewN_drewN _ _ _) (congrArg (World.drewN _) (Nat.add_assoc _ _ _))⟩))))
                        go_roundg k3
                        case measure => have := HK1.out; have := HJ5.out; have := HK3.out; omega
                        case rel => exact ⟨(wrap64 (x8_3 + 1)), rf_, H', ⟨by have := HK1.out; have := HJ5.out; have := HK3.out; omega⟩, ⟨by repeat (first | exact HO_3.out | apply Kd.R_drewN | apply Kd.R_drew | refine Kd.R_far ?_ (fun k_ hk_ => by have := HG2.out.1; show k_ ≠ g2; omega) _)⟩, ⟨by rw [W8.out]; first | exact HSET.out _ | exact (HSET.out _).drewN _⟩, ⟨by repeat (first | exact HB.out | apply pw_below_drewN | apply below_drew1 | refine below_set ?_ HG2.out.2)⟩⟩
                      · rw [if_neg c20] at H
                        exact absurd H (by simp)
                    · rw [if_neg c19] at H
                      exact absurd H (by simp)
                  · replace c18 := Bool.eq_false_iff.mpr c18
                    subst c18
                    have H1 : (some false) = some true := by rw [if_neg (show ¬ (false = true) by decide)] at H; exact H
                    clear H
                    have H := H1
                    clear H1
                    exact absurd (Option.some.inj H) (by decide)
                · rw [if_neg c16] at H
                  exact absurd H (by simp)
              · rw [if_neg c15] at H
                exact absurd H (by simp)
            · rw [if_neg c14] at H
              have c14b0 : decide (x8_3 < (t181.length : Int)) = false := decide_eq_false c14
              clear c14
              have H' := Aside0.mk H
              clear H
              go_wp2
              repeat (go_quiet (fail); try go_wp2)
              go_roundg k3
              case measure => have := HK1.out; have := HJ5.out; have := HK3.out; omega
              case rel => exact ⟨(wrap64 (x5_1 + 1)), rf_, H', ⟨by have := HK1.out; have := HJ5.out; have := HK3.out; omega⟩, ⟨by (with_reducible repeat (first | apply Kd.R_alloc | apply Kd.R_drewN | apply Kd.R_drew)); exact Kd.R_mono HO_3.out (fun _ hk => trivial)⟩, ⟨bel_⟩⟩
   · rw [if_neg c4] at H
     have c4b0 : decide (x5_1 < 2) = false := decide_eq_false c4
     clear c4
     replace H := Option.bind_eq_some_iff.mp H
     obtain ⟨t180, A260, H⟩ := H
     replace H : (some t180) = some true := H
     have A26 := Aside0.mk A260
     clear A260
     have HT := Option.some.inj H
     subst HT
     go_wp2_with (first | (go_at_call 15; (with_reducible refine (clochelaw09_alive.calls  true _ A26.out).mono ?_); rintro e w27 ⟨rfl, hb⟩; have n0_ := Aside0.mk (Kd.R_below (nR_ HO_3.out) hb); have n1_ := Aside0.mk (below_step (bel_) hb); clear HO_3; clear HB; have HO_3 := n0_; have HB := n1_; clear n0_ n1_; (try clear hb); (try clear hb2); (try clear hk); (try clear hi)))
     repeat (go_quiet (first | (go_at_call 15; (with_reducible refine (clochelaw09_alive.calls  true _ A26.out).mono ?_); rintro e w27 ⟨rfl, hb⟩; have n0_ := Aside0.mk (Kd.R_below (nR_ HO_3.out) hb); have n1_ := Aside0.mk (below_step (bel_) hb); clear HO_3; clear HB; have HO_3 := n0_; have HB := n1_; clear n0_ n1_; (try clear hb); (try clear hb2); (try clear hk); (try clear hi))); try go_wp2_with (first | (go_at_call 15; (with_reducible refine (clochelaw09_alive.calls  true _ A26.out).mono ?_); rintro e w27 ⟨rfl, hb⟩; have n0_ := Aside0.mk (Kd.R_below (nR_ HO_3.out) hb); have n1_ := Aside0.mk (below_step (bel_) hb); clear HO_3; clear HB; have HO_3 := n0_; have HB := n1_; clear n0_ n1_; (try clear hb); (try clear hb2); (try clear hk); (try clear hi))))
     go_ret
     exact ⟨er_, bel_⟩

end Go.Proofs.Ytdinepghommchaa.V

/- What the walk of VeilsAll computes is true for all inputs. -/
namespace Go.Proofs.Ytdinepghommchaa.V
open Go.RowKit Go.Proofs.YtdinepghommchaaW.PrintWords Go.Proofs.YtdinepghommchaaW.PrintLast Go.Proofs.YtdinepghommchaaW.PrintMore
set_option maxRecDepth 1000000 in
theorem fillz1 : clocheref09_fill.f 100 (List.replicate 1 (List.replicate 1 0)) 0 [] = some veils1 := by decide +kernel
set_option maxRecDepth 1000000 in
theorem fillz2 : clocheref09_fill.f 100 (List.replicate 2 (List.replicate 2 0)) 0 [] = some veils2 := by decide +kernel
set_option maxRecDepth 1000000 in
theorem fillz3 : clocheref09_fill.f 100 (List.replicate 3 (List.replicate 3 0)) 0 [] = some veils3 := by decide +kernel
set_option maxRecDepth 1000000 in
theorem fillz4 : clocheref09_fill.f 100 (List.replicate 4 (List.replicate 4 0)) 0 [] = some veils4 := by decide +kernel
set_option maxRecDepth 1000000 in
theorem fillz5 : clocheref09_fill.f 100 (List.replicate 5 (List.replicate 5 0)) 0 [] = some veils5 := by decide +kernel
/-- What is asked of each veil that All returns. -/
def allP (t : List (List Int)) : Bool := (clocheref09_Same.f 100 t t == some true) && decide (0 < t.length) && decide (0 < (t.getD 0 []).length)
set_option maxRecDepth 1000000 in
theorem allP1 : veils1.all allP = true := by decide +kernel
set_option maxRecDepth 1000000 in
theorem allP2 : veils2.all allP = true := by decide +kernel
set_option maxRecDepth 1000000 in
theorem allP3 : veils3.all allP = true := by decide +kernel
set_option maxRecDepth 1000000 in
theorem allP4 : veils4.all allP = true := by decide +kernel
set_option maxRecDepth 1000000 in
theorem allP5a : (veils5.take 150).all allP = true := by decide +kernel
set_option maxRecDepth 1000000 in
theorem allP5b : ((veils5.drop 150).take 150).all allP = true := by decide +kernel
set_option maxRecDepth 1000000 in
theorem allP5c : ((veils5.drop 150).drop 150).all allP = true := by decide +kernel
theorem allP5 : veils5.all allP = true := by
 rw [← List.take_append_drop 150 veils5, List.all_append, allP5a]
 rw [← List.take_append_drop 150 (veils5.drop 150), List.all_append, allP5b, allP5c]
 rfl
theorem zerosz_l0 (n : Nat) (hn : n ≤ 20) : ∀ d k i, i + d = n → clocheref09_zeros.l0 (k + d + 1) n (List.replicate i (List.replicate n 0)) i = some (List.replicate n (List.replicate n 0))
 | 0, k, i, h => by
  rw [Nat.add_zero, clocheref09_zeros.l0, if_neg (by omega)]
  rw [show i = n by omega]
 | d + 1, k, i, h => by
  rw [show k + (d + 1) + 1 = (k + d + 1) + 1 from rfl, clocheref09_zeros.l0, if_pos (by omega), if_pos (by omega), if_pos (by omega), if_pos (by rw [List.length_replicate]; omega), wr_succ i (by omega), Int.toNat_natCast]
  have e : List.replicate i (List.replicate n (0 : Int)) ++ [List.replicate n 0] = List.replicate (i + 1) (List.replicate n 0) := by
   rw [List.replicate_succ']
  rw [e]
  exact zerosz_l0 n hn d k (i + 1) (by omega)
theorem zerosz (n : Nat) (hn : n ≤ 20) (k : Nat) (hk : 30 ≤ k) : clocheref09_zeros.f k n = some (List.replicate n (List.replicate n 0)) := by
 have := zerosz_l0 n hn n (k - n - 1) 0 (by omega)
 rw [show k - n - 1 + n + 1 = k by omega] at this
 exact this
theorem rdL2c (L : List (List (List Int))) (i : Nat) : rd_L2 L (i : Int) = L.getD i [] := by unfold rd_L2; rw [Int.toNat_natCast]
theorem all_l1 (n e x5 : Int) (L : List (List (List Int))) (hL : L.all allP = true) (hlen : L.length ≤ 900) (B : Nat) : ∀ d i K, i + d = L.length → d + 200 + B ≤ K →
 ∃ K', B ≤ K' ∧ clochelaw09_VeilsAll.l1 K n L e x5 L i = clochelaw09_VeilsAll.l0 K' n L e (wrap64 (x5 + 1)) := by
 intro d
 induction d with
 | zero =>
  intro i K hi hK
  obtain ⟨K, rfl⟩ : ∃ m, K = m + 1 := ⟨K - 1, by omega⟩
  exact ⟨K, by omega, by rw [clochelaw09_VeilsAll.l1, if_neg (by omega)]⟩
 | succ d ih =>
  intro i K hi hK
  obtain ⟨K, rfl⟩ : ∃ m, K = m + 1 := ⟨K - 1, by omega⟩
  have hlt : i < L.length := by omega
  have hg : L.getD i [] = L[i] := by rw [List.getD_eq_getElem?_getD, List.getElem?_eq_getElem hlt]; rfl
  have hp := List.all_eq_true.mp hL _ (List.getElem_mem hlt)
  rw [← hg] at hp
  simp only [allP, Bool.and_eq_true, beq_iff_eq, decide_eq_true_eq] at hp
  obtain ⟨⟨h1, h2⟩, h3⟩ := hp
  have hz : rd_L1 (L.getD i []) 0 = (L.getD i []).getD 0 [] := rfl
  have hw : wrap64 ((i : Int) + 1) = ((i + 1 : Nat) : Int) := by rw [wr _ (by omega)]; omega
  rw [clochelaw09_VeilsAll.l1, if_pos (by omega), if_pos (by omega), if_pos (by omega), rdL2c, lift (fun k => clocheref09_Same.mono _ _ k) h1 (show 100 ≤ K by omega), Option.bind_some, if_pos rfl, if_pos (by omega), hz, if_pos (by omega), hw]
  exact ih (i + 1) K (by omega) (by omega)
theorem aj_abs {A : Option (List (List (List Int)) × Int)} {L : List (List (List Int))} {e : Int} {J : List (List (List Int)) → Bool → Option Bool} {n : Int} (hA : A = some (L, e)) (hn : (L.length : Int) = n) (hJ : J L false = some true) :
 (A.bind fun bt181 => (if (bt181.1.length : Int) = n then (J bt181.1 (bt181.2 != e)) else (J bt181.1 true))) = some true := by
 subst hA
 simp [hn, hJ]
theorem all_l0 (n e : Int) (L : List (List (List Int))) (hA : veils_All.f n = some (L, e)) (hL : L.all allP = true) (hlen : L.length ≤ 900) : ∀ d (x : Nat) K, x + d = 2 → d * 1500 + 2 ≤ K → clochelaw09_VeilsAll.l0 K n L e x = some true := by
 intro d
 induction d with
 | zero =>
  intro x K hx hK
  obtain ⟨K, rfl⟩ : ∃ m, K = m + 1 := ⟨K - 1, by omega⟩
  rw [clochelaw09_VeilsAll.l0, if_neg (by omega)]
  rfl
 | succ d ih =>
  intro x K hx hK
  obtain ⟨K, rfl⟩ : ∃ m, K = m + 2 := ⟨K - 2, by omega⟩
  rw [clochelaw09_VeilsAll.l0, if_pos (by omega)]
  refine aj_abs (J := fun L' => clochelaw09_VeilsAll.j1 (K + 1) n L e x L') hA rfl ?_
  show clochelaw09_VeilsAll.j1 (K + 1) n L e x L false = some true
  rw [clochelaw09_VeilsAll.j1, if_neg (by decide)]
  have h := all_l1 n e x L hL hlen (d * 1500 + 2) L.length 0 K (by omega) (by omega)
  rw [show ((0 : Nat) : Int) = 0 from rfl] at h
  obtain ⟨K', hK', h⟩ := h
  rw [h, wr_succ x (by omega)]
  exact ih (x + 1) K' (by omega) hK'
theorem ra_abs {A : Option (List (List (List Int)) × Int)} {L : List (List (List Int))} {e : Int} {F : List (List (List Int)) → Int → Option Bool} (hA : A = some (L, e)) (hF : F L e = some true) : (A.bind fun bt176 => F bt176.1 bt176.2) = some true := by
 subst hA
 exact hF
theorem rj_abs {Z : Option (List (List Int))} {F : List (List Int) → Option (List (List (List Int)))} {z : List (List Int)} {L : List (List (List Int))} (hZ : Z = some z) (hF : F z = some L) : (Z.bind fun t114 => ((F t114).bind fun t117 => (some (t117, (0 : Int))))) = some (L, 0) := by
 subst hZ
 simp [hF]
theorem rall_of (n : Nat) (L : List (List (List Int))) (h1 : 1 ≤ n) (h5 : n ≤ 5) (hf : clocheref09_fill.f 100 (List.replicate n (List.replicate n 0)) 0 [] = some L) (k : Nat) (hk : 40 ≤ k) : clocheref09_All.f (k + 1) n = some (L, 0) := by
 have e : ∀ t, clocheref09_fill.f k t 0 [] = clocheref09_fill.f 100 t 0 [] := fun _ => rfl
 unfold clocheref09_All.f
 rw [if_neg (by omega), decide_eq_false (by omega), clocheref09_All.j0, if_neg (by decide)]
 exact rj_abs (F := fun t => clocheref09_fill.f k t 0 []) (zerosz n (by omega) k (by omega)) (by rw [e]; exact hf)
theorem all_go (k : Nat) (hk : 4000 ≤ k) (n : Int) : clochelaw09_VeilsAll.f (k + 1) n = some true := by
 unfold clochelaw09_VeilsAll.f
 by_cases c1 : n < 1
 · refine ra_abs (L := []) (e := 2) (F := fun L e => clochelaw09_VeilsAll.l0 (k + 1) n L e 0) (by unfold clocheref09_All.f; rw [if_pos c1, clocheref09_All.j0, if_pos rfl]) ?_
   exact all_l0 n 2 [] (by unfold veils_All.f; rw [if_pos c1]) rfl (by simp) 2 0 (k + 1) rfl (by omega)
 by_cases c2 : 5 < n
 · refine ra_abs (L := []) (e := 2) (F := fun L e => clochelaw09_VeilsAll.l0 (k + 1) n L e 0) (by unfold clocheref09_All.f; rw [if_neg c1, decide_eq_true (by omega), clocheref09_All.j0, if_pos rfl]) ?_
   exact all_l0 n 2 [] (by unfold veils_All.f; rw [if_neg c1, if_pos c2]) rfl (by simp) 2 0 (k + 1) rfl (by omega)
 have hn : n = 1 ∨ n = 2 ∨ n = 3 ∨ n = 4 ∨ n = 5 := by omega
 rcases hn with rfl | rfl | rfl | rfl | rfl
 · exact ra_abs (F := fun L e => clochelaw09_VeilsAll.l0 (k + 1) 1 L e 0) (rall_of 1 _ (by omega) (by omega) fillz1 k (by omega)) (all_l0 1 0 _ all1 allP1 (by decide +kernel) 2 0 (k + 1) rfl (by omega))
 · exact ra_abs (F := fun L e => clochelaw09_VeilsAll.l0 (k + 1) 2 L e 0) (rall_of 2 _ (by omega) (by omega) fillz2 k (by omega)) (all_l0 2 0 _ all2 allP2 (by decide +kernel) 2 0 (k + 1) rfl (by omega))
 · exact ra_abs (F := fun L e => clochelaw09_VeilsAll.l0 (k + 1) 3 L e 0) (rall_of 3 _ (by omega) (by omega) fillz3 k (by omega)) (all_l0 3 0 _ all3 allP3 (by decide +kernel) 2 0 (k + 1) rfl (by omega))
 · exact ra_abs (F := fun L e => clochelaw09_VeilsAll.l0 (k + 1) 4 L e 0) (rall_of 4 _ (by omega) (by omega) fillz4 k (by omega)) (all_l0 4 0 _ all4 allP4 (by decide +kernel) 2 0 (k + 1) rfl (by omega))
 · exact ra_abs (F := fun L e => clochelaw09_VeilsAll.l0 (k + 1) 5 L e 0) (rall_of 5 _ (by omega) (by omega) fillz5 k (by omega)) (all_l0 5 0 _ all5 allP5 (by decide +kernel) 2 0 (k + 1) rfl (by omega))
theorem all_true (n : Int) : clochelaw09_VeilsAll.f (4007 + 1) n = some true := all_go 4007 (by decide) n
end Go.Proofs.Ytdinepghommchaa.V
