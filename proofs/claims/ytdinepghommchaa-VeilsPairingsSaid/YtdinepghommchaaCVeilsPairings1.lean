/- The walks and the pure laws under the claim of VeilsPairings, part: Vf36, Vf39, Vg39, Vf40, Vf57, Vf80, Vf81, Vf71, Vf82, Vf72, Vf52, Vf25. -/
import Derived.Test.YtdinepghommchaaCb1
import Derived.Test.YtdinepghommchaaCb8
-- Written by a program of this session over the kit's printer: wip/gp.py.
namespace Go.Proofs.Ytdinepghommchaa.V
open Go.RowKit Go.Proofs.YtdinepghommchaaW.PrintWords Go.Proofs.YtdinepghommchaaW.PrintLast Go.Proofs.YtdinepghommchaaW.PrintMore
attribute [local go_sem] max2_int min2_int max_two min_two max_three min_three max_four min_four   -- for this text's walks alone
set_option linter.unusedVariables false
set_option linter.unusedSimpArgs false

/-! ### clocheref09_Copy: function 36 -/
def clocheref09_Copy.l0 : Nat → List (List Int) → List (List Int) → Int → Option ((List (List Int)))
 | 0, _, _, _ => none
 | k + 1, x0, x3, x4 => if x4 < (x0.length : Int) then (if 0 ≤ x4 then (if ([] : List Int).length + (rd_L1 x0 x4).length < 17592186044416 then (if x3.length < 5864062014805 then (clocheref09_Copy.l0 k x0 (x3 ++ [(([] : List Int) ++ (rd_L1 x0 x4))]) (wrap64 (x4 + 1))) else (none)) else (none)) else (none)) else (some x3)
def clocheref09_Copy.f (k : Nat) (l0 : List (List Int)) : Option ((List (List Int))) := clocheref09_Copy.l0 k l0 ([] : List (List Int)) 0
set_option maxHeartbeats 8000000 in
set_option maxRecDepth 100000 in
theorem clocheref09_Copy.calls (k : Nat) (A0 : Option Addr) (c0 : Nat) (l0 : List (List Int)) (r : List (List Int)) (w : World) (hr0 : Kd.C (Kd.slice 3 (Kd.int .i64)) w A0 l0.length l0) (hc0 : l0.length ≤ c0) (h : clocheref09_Copy.f k l0 = some r) :
 Calls Try.prog 36 #[.slice A0 l0.length c0] w fun e w' => ∃ v0_ : Value, e = .returned (v0_) ∧ Kd.S (Kd.slice 3 (Kd.int .i64)) 28 w' w.heap.size (fun _ => True) v0_ r ∧ Below w.heap.size w w' := by
 have HR0 := Aside0.mk hr0
 have HC0 := Aside0.mk hc0
 clear hr0 hc0
 have HB := Aside0.mk (Below.refl w.heap.size w)
 have H : (clocheref09_Copy.l0 k l0 ([] : List (List Int)) 0) = some r := h
 clear h
 have H' := Aside0.mk H
 clear H
 go_enter Try.func36, Try.ntmps36
 go_wp2
 go_loopg [3, 4] k (fun kq v3 v4 w' => ∃ (x3_1 : List (List Int)) (x4_1 : Int), v4 = .int .i64 x4_1 ∧ Aside0 (clocheref09_Copy.l0 kq l0 x3_1 x4_1 = some r) ∧ Aside0 (kq ≤ k) ∧ Aside0 (Kd.S (Kd.slice 3 (Kd.int .i64)) 28 w' w.heap.size (fun _ => True) v3 x3_1) ∧ Aside0 (Below w.heap.size w w'))
 case atStart => exact ⟨(([] : List (List Int))), (0), rf_, H', ⟨Nat.le_refl _⟩, ⟨by first | exact Kd.S_nil _ _ _ _ _ | exact Kd.N_nil _ _ _ _ _ | exact Kd.V_nil _ _ _ _ _ | exact Kd.Q_nil _ _ _ _ _ | exact Kd.R_nil _ _ _ _ _⟩, ⟨bel_⟩⟩
 case round =>
  clear H'
  obtain ⟨x3_1, x4_1, rfl, HA, HK1, HO_3, HB⟩ := hrel
  cases gk with
  | zero => exact absurd HA.out (by simp [clocheref09_Copy.l0])
  | succ k1 =>
   have H := HA.out
   clear HA
   simp only [clocheref09_Copy.l0] at H
   by_cases c2 : x4_1 < (l0.length : Int)
   · rw [if_pos c2] at H
     have c2b0 : decide (x4_1 < (l0.length : Int)) = true := decide_eq_true c2
     clear c2
     by_cases c3 : 0 ≤ x4_1
     · rw [if_pos c3] at H
       have c3b0 : decide (0 ≤ x4_1) = true := decide_eq_true c3
       clear c3
       by_cases c4 : ([] : List Int).length + (rd_L1 l0 x4_1).length < 17592186044416
       · rw [if_pos c4] at H
         have LMc4 := Aside0.mk c4
         clear c4
         obtain ⟨y102, hy102⟩ : ∃ y_ : List Int, y_ = (([] : List Int) ++ (rd_L1 l0 x4_1)) := ⟨_, rfl⟩
         replace H : (if x3_1.length < 5864062014805 then (clocheref09_Copy.l0 k1 l0 (x3_1 ++ [y102]) (wrap64 (x4_1 + 1))) else (none)) = some r := by first | (rw [hy102]; with_reducible exact H) | (have H2_ := (Option.bind_some _ _).symm.trans H; rw [hy102]; with_reducible exact H2_) | (have H2_ := (Option.bind_some _ _).symm.trans H; with_reducible exact H2_) | with_reducible exact H | (rw [hy102]; exact H) | exact H
         have Ny102 := Aside0.mk hy102
         clear hy102
         by_cases c5 : x3_1.length < 5864062014805
         · rw [if_pos c5] at H
           have LMc5 := Aside0.mk c5
           clear c5
           obtain ⟨y105, hy105⟩ : ∃ y_ : List (List Int), y_ = (x3_1 ++ [y102]) := ⟨_, rfl⟩
           replace H : (clocheref09_Copy.l0 k1 l0 y105 (wrap64 (x4_1 + 1))) = some r := by first | (rw [hy105]; with_reducible exact H) | (have H2_ := (Option.bind_some _ _).symm.trans H; rw [hy105]; with_reducible exact H2_) | (have H2_ := (Option.bind_some _ _).symm.trans H; with_reducible exact H2_) | with_reducible exact H | (rw [hy105]; exact H) | exact H
           have Ny105 := Aside0.mk hy105
           clear hy105
           have H' := Aside0.mk H
           clear H
           obtain ⟨ad101, A101_0, c101_0, e101, hx101_0, HC101_0, HR101_0, p101, q101⟩ := al_ HR0.out x4_1
           cases e101
           replace hx101_0 := (HB.out.cell (World.block_lt_of_cell? w _ hx101_0)).trans hx101_0
           go_wp2_with (first | ((with_reducible refine gate_builtin (b := .append) (xs := #[.tmp 12, .tmp 16]) rfl ?_); at_builtin; refine Kd.R_append_rows (Kd.int .i64) (w0 := w) w.heap.size rfl (.tmp 12) (.tmp 16) 28 3 (.int .i64 0) 8 rfl Try.underlying28 info3 rfl (by decide) (by omega) (.slice none 0 0) ([] : List Int) (rd_L1 l0 x4_1) _ _ _ (fun _ => True) (fun _ => False) rfl rfl ?aO ?aR (fun _ _ h => h) (fun _ h => h.elim) ?aF ?aB ?aS ?aL ?_; (case aR => repeat (first | exact (Kd.C_below HR101_0.out HB.out) | (with_reducible refine Kd.C_alloc ?_ _) | (with_reducible refine Kd.C_drewN ?_ _) | (with_reducible refine Kd.C_drew ?_))); (case aB => exact (bel_)); (case aF => exact (fun _ _ => trivial)); (case aO => exact ((Kd.R_nil _ _ _ _ (fun _ => True)))); (case aS => exact (below_size (bel_))); (case aL => have := LMc4.out; omega); intro v103 w6 ho hb hg hat; rw [← Ny102.out] at ho; have n0_ := Aside0.mk (Kd.S_after (Kd.S_apart_nil (nS_ HO_3.out)) hg hat); have n1_ := Aside0.mk (hb); have n2_ := Aside0.mk (ho); clear HO_3; clear HB; have HO_3 := n0_; have HB := n1_; have HO104 := n2_; clear n0_ n1_ n2_; clear ho hb hg hat; obtain ⟨Ao8, co8, eo8⟩ := Kd.R_slice HO104.out; subst eo8) | ((with_reducible refine gate_builtin (b := .append) (xs := #[.tmp 18, .tmp 20]) rfl ?_); at_builtin; refine Kd.S_append (Kd.slice 3 (Kd.int .i64)) (w0 := w) w.heap.size rfl (.tmp 18) (.tmp 20) 27 28 (.slice none 0 0) 24 rfl Try.underlying27 info28 rfl (by decide) (by omega) u3 x3_1 y102 [.slice Ao8 y102.length co8] (fun _ => True) (fun k_ => some k_ = (.slice Ao8 y102.length co8 : Value).ownBlock) rfl rfl ?aP (fun k_ hk_ => ((Kd.R_mono (ok' := fun k_ => ((fun _ => True)) k_ ∧ some k_ ≠ (u3 : Value).ownBlock) (Kd.R_apart' (HO104.out) (Kd.S_typed HO_3.out) (by decide)) (fun k_ hk => ⟨trivial, hk.2⟩))).1 k_ hk_.symm) ?aF ?aO ?aB ?aS ?aL ?_; (case aP => exact Kd.M_row (Kd.R_mono (Kd.R_tight rfl (Kd.R_mono (ok' := fun k_ => ((fun _ => True)) k_ ∧ some k_ ≠ (u3 : Value).ownBlock) (Kd.R_apart' (HO104.out) (Kd.S_typed HO_3.out) (by decide)) (fun k_ hk => ⟨trivial, hk.2⟩))) (fun _ h_ => h_))); (case aB => exact (bel_)); (case aF => exact (fun _ _ => trivial)); (case aO => exact (by (with_reducible repeat (first | apply Kd.S_alloc | apply Kd.S_drewN | apply Kd.S_drew)); exact Kd.S_mono HO_3.out (fun k_ hk => ⟨trivial, fun e_ => hk.2 e_⟩))); (case aS => exact (below_size (bel_))); (case aL => have := LMc5.out; omega); intro v106 w7 ho hb hg hat; rw [← Ny105.out] at ho; have n0_ := Aside0.mk (hb); have n1_ := Aside0.mk (ho); clear HB; clear HO_3; clear HO104; have HB := n0_; have HO107 := n1_; clear n0_ n1_; clear ho hb hg hat))
           go_roundg k1
           case measure => have := HK1.out; omega
           case rel => exact ⟨(y105), (wrap64 (x4_1 + 1)), rf_, H', ⟨by have := HK1.out; omega⟩, ⟨nS_ HO107.out⟩, ⟨bel_⟩⟩
         · rw [if_neg c5] at H
           exact absurd H (by simp)
       · rw [if_neg c4] at H
         exact absurd H (by simp)
     · rw [if_neg c3] at H
       exact absurd H (by simp)
   · rw [if_neg c2] at H
     have c2b0 : decide (x4_1 < (l0.length : Int)) = false := decide_eq_false c2
     clear c2
     obtain rfl := Option.some.inj H
     go_wp2
     go_ret
     exact ⟨_, er_, by (with_reducible repeat (first | apply Kd.S_alloc | apply Kd.S_drewN | apply Kd.S_drew)); exact HO_3.out, bel_⟩

end Go.Proofs.Ytdinepghommchaa.V

/- The walk of the specification's fill: it goes on with a veil at a place; its table lies in memory of its caller's, and so does the list that it appends to. -/
namespace Go.Proofs.Ytdinepghommchaa.V
open Go.RowKit Go.Proofs.YtdinepghommchaaW.PrintWords Go.Proofs.YtdinepghommchaaW.PrintLast Go.Proofs.YtdinepghommchaaW.PrintMore
set_option linter.unusedVariables false
set_option linter.unusedSimpArgs false

/-- The table lies between lo and mid, what has been found behind mid. -/
structure Fi (lo mid V cv n : Nat) (W : World) (t : List (List Int)) (vO : Value) (out : List (List (List Int))) : Prop where
 tab : Kd.S (Kd.slice 3 (Kd.int .i64)) 28 W lo (fun k => lo ≤ k ∧ k < mid) (.slice (some ⟨V, 0, none⟩) n cv) t
 wide : ∀ i, i < n → (t.getD i []).length = n
 size : mid ≤ W.heap.size
 out : Kd.S (Kd.slice 28 (Kd.slice 3 (Kd.int .i64))) 27 W mid (fun k => mid ≤ k) vO out
theorem Fi.len {lo mid V cv n : Nat} {W : World} {t : List (List Int)} {vO : Value} {out : List (List (List Int))} (h : Fi lo mid V cv n W t vO out) : t.length = n := (Kd.S_reads' h.tab).1.symm
theorem Fi.drewN {lo mid V cv n : Nat} {W : World} {t : List (List Int)} {vO : Value} {out : List (List (List Int))} (h : Fi lo mid V cv n W t vO out) (m : Nat) : Fi lo mid V cv n (W.drewN m) t vO out :=
 ⟨Kd.S_drewN h.tab m, h.wide, h.size, Kd.S_drewN h.out m⟩
theorem Fi.drew {lo mid V cv n : Nat} {W : World} {t : List (List Int)} {vO : Value} {out : List (List (List Int))} (h : Fi lo mid V cv n W t vO out) : Fi lo mid V cv n W.drew t vO out :=
 ⟨Kd.S_drew h.tab, h.wide, h.size, Kd.S_drew h.out⟩
/-- A place of the table. -/
theorem Fi.place {lo mid V cv n : Nat} {W : World} {t : List (List Int)} {vO : Value} {out : List (List (List Int))} (h : Fi lo mid V cv n W t vO out) (i j : Int) (h0 : 0 ≤ i) (h1 : i < n) (j0 : 0 ≤ j) (j1 : j < n) :
 ∃ g c, W.cell? ⟨V, i.toNat, none⟩ = some (.slice (some ⟨g, 0, none⟩) n c) ∧ lo ≤ g ∧ g < mid ∧ W.cell? ⟨g, j.toNat, none⟩ = some (.int .i64 (rd (rd_L1 t i) j)) ∧ W.frozen? ⟨g, j.toNat, none⟩ = false ∧
  ∀ x : Int, Fi lo mid V cv n (W.setCell ⟨g, j.toNat, none⟩ (.int .i64 x)) (t.set i.toNat ((rd_L1 t i).set j.toNat x)) vO out := by
 have hl := h.len
 have hw : (rd_L1 t i).length = n := h.wide i.toNat (by omega)
 obtain ⟨oki, c, hcl, hM, hcc, hok, hbk⟩ := Kd.S_borrow h.tab [] i h0 h1
 obtain ⟨v, rfl, gv⟩ := hM
 have gv' : Kd.R (Kd.int .i64) 3 W lo oki v (rd_L1 t i) := gv
 obtain ⟨g, cap, rfl, hb, hlt, cells, hcells⟩ := Kd.R_form gv' (by omega)
 have hgo : oki g := gv'.1 g rfl
 have hgV := (hok g hgo).1
 have hcell := hcc 0 _ rfl
 rw [Nat.add_zero, show ((Kd.slice 3 (Kd.int .i64))).sz = 1 from rfl, Nat.mul_one, add_plain, hw] at hcell
 rw [hw] at gv'
 obtain ⟨hx, hf⟩ := Kd.R_celln (0 : Int) gv' j j0 j1
 refine ⟨g, cap, hcell, hgV.1, hgV.2, hx, hf, fun x => ?_⟩
 have hp := Kd.R_putg gv' j x
 refine ⟨?_, ?_, ?_, ?_⟩
 · have hb2 := hbk hp.2 (fun k hk => by injection hk with hk; subst hk; exact hgo) (x' := (rd_L1 t i).set j.toNat x) (by
    have z := Kd.M_row (e := 3) hp.1
    rw [hw]
    exact z)
   exact hb2
 · intro m hm
   show ((t.set i.toNat ((rd_L1 t i).set j.toNat x)).getD m []).length = n
   rw [List.getD_eq_getElem?_getD, List.getElem?_set]
   by_cases e : i.toNat = m
   · rw [if_pos e, if_pos (by omega)]
     simp [hw]
   · rw [if_neg e, ← List.getD_eq_getElem?_getD]
     exact h.wide m hm
 · have := h.size
   simpa [World.setCell] using this
 · exact Kd.S_far h.out (fun k hk => by show k ≠ g; omega) _

def rowS (t : List (List Int)) (i : Nat) : Nat → Int
 | 0 => 0
 | x + 1 => wrap64 (rowS t i x + rd (rd_L1 t (i : Int)) (x : Int))
def colS (t : List (List Int)) (j : Nat) : Nat → Int
 | 0 => 0
 | x + 1 => wrap64 (colS t j x + rd (rd_L1 t (x : Int)) (j : Int))
/-- Is a number left out at a place, where the row and the column sum to a and b with it? -/
def skipB (n i j : Nat) (a b : Int) : Bool := decide (a < 0 ∨ 1 < a ∨ b < 0 ∨ 1 < b ∨ ((j : Int) = (n : Int) - 1 ∧ a ≠ 1) ∨ ((i : Int) = (n : Int) - 1 ∧ b ≠ 1))
abbrev FS := List (List Int) × List (List (List Int))
def fillTry (rec : Nat → FS → Option FS) (n p i j : Nat) (r c : Int) : Nat → FS → Option FS
 | 0, z => some z
 | k + 1, z => if skipB n i j (wrap64 (r + (1 - (k : Int)))) (wrap64 (c + (1 - (k : Int)))) = true then fillTry rec n p i j r c k z
   else (rec (p + 1) (z.1.set i ((rd_L1 z.1 (i : Int)).set j (1 - (k : Int))), z.2)).bind (fillTry rec n p i j r c k)
def fillF (n : Nat) : Nat → Nat → FS → Option FS
 | 0, _, _ => none
 | k + 1, p, z =>
   if p = n * n then (clocheref09_Copy.f 1000 z.1).bind fun u => if z.2.length < 5864062014805 then some (z.1, z.2 ++ [u]) else none
   else (fillTry (fillF n k) n p (p / n) (p % n) (rowS z.1 (p / n) (p % n)) (colS z.1 (p % n) (p / n)) 3 z).map fun y => (y.1.set (p / n) ((rd_L1 y.1 ((p / n : Nat) : Int)).set (p % n) 0), y.2)

set_option maxHeartbeats 1000000 in
set_option maxRecDepth 100000 in
/-- At the end of the table. -/
theorem fill_end {lo mid V cv n : Nat} (hn : 1 ≤ n ∧ n ≤ 1000) (hlm : lo ≤ mid) (t u : List (List Int)) (out : List (List (List Int))) (vO : Value) (W : World) (hF : Aside0 (Fi lo mid V cv n W t vO out)) (hu : Aside0 (clocheref09_Copy.f 1000 t = some u)) (hL : Aside0 (out.length < 5864062014805)) :
 Calls Try.prog 39 #[.slice (some ⟨V, 0, none⟩) n cv, .int .i64 ((n * n : Nat) : Int), vO] W fun e W' => ∃ v, e = .returned v ∧ Fi lo mid V cv n W' t v (out ++ [u]) ∧ Same (fun k => k < lo) W W' := by
 have e0 : ((n * n : Nat) : Int) = (n : Int) * n := by simp
 have n1 : 1 ≤ (n : Int) := by omega
 have n2 : (n : Int) ≤ 1000 := by omega
 have hq : ((n : Int) * n == wrap64 ((n : Int) * n)) = true := by
   have h1 : (n : Int) * n ≤ 1000 * 1000 := Int.mul_le_mul n2 n2 (by omega) (by omega)
   have h2 : 0 ≤ (n : Int) * n := Int.mul_nonneg (by omega) (by omega)
   simp only [beq_iff_eq]
   unfold wrap64
   omega
 have HM : Aside0 (∀ w1, Kd.C (Kd.slice 3 (Kd.int .i64)) w1 (some ⟨V, 0, none⟩) t.length t → Calls Try.prog 36 #[.slice (some ⟨V, 0, none⟩) n cv] w1 (fun e w' => ∃ v0_ : Value, e = .returned v0_ ∧ Kd.S (Kd.slice 3 (Kd.int .i64)) 28 w' w1.heap.size (fun _ => True) v0_ u ∧ Below w1.heap.size w1 w')) :=
   ⟨fun w1 h => by have z := clocheref09_Copy.calls 1000 (some ⟨V, 0, none⟩) cv t u w1 h (by have := (Kd.S_reads' hF.out.tab).2.1; rw [hF.out.len]; exact this) hu.out; rwa [hF.out.len] at z⟩
 have HR : Aside0 (Kd.C (Kd.slice 3 (Kd.int .i64)) W (some ⟨V, 0, none⟩) t.length t) := ⟨(Kd.S_reads' hF.out.tab).2.2⟩
 rw [e0]
 clear e0
 go_enter Try.func39, Try.ntmps39
 have HSZ := Aside0.mk hF.out.size
 have HT := Aside0.mk (Kd.S_lt hF.out.out)
 go_wp2_with (first
   | ((with_reducible refine gate_callee (f := 36) rfl ?_); refine goesL_ (some 24) rfl rfl Try.func36 (by kernel_rfl) rfl #[.slice (some ⟨V, 0, none⟩) n cv] rfl (by (try simp only [List.map_toArray, List.map_cons, List.map_nil]); first | done | rfl) ?_; (refine (HM.out _ ?s1).mono ?_); (case s1 => repeat (first | exact HR.out | (with_reducible refine Kd.C_alloc ?_ _) | (with_reducible refine Kd.C_drewN ?_ _) | (with_reducible refine Kd.C_drew ?_))); rintro e w2 ⟨v2, rfl, ho2, hb2⟩; refine ⟨_, rfl, ?_⟩; have HN2 := Aside0.mk (Kd.S_bound ho2); have HB2 := Aside0.mk hb2; have HO2 := Aside0.mk (Kd.S_below (Kd.S_bound hF.out.out) hb2); have HB2m := Aside0.mk (show Below mid W w2 from hb2.mono hF.out.size); have HW2 := Aside0.mk (Nat.le_trans hF.out.size hb2.size); have HZ2 := Aside0.mk hb2.size; clear ho2 hb2; obtain ⟨A2, c2, e2⟩ := Kd.S_slice HN2.out; subst e2)
   | ((with_reducible refine gate_builtin (b := .append) (xs := #[.tmp 22, .tmp 25]) rfl ?_); at_builtin; refine Kd.S_append (Kd.slice 28 (Kd.slice 3 (Kd.int .i64))) (w0 := W) mid rfl (.tmp 22) (.tmp 25) 22 27 (.slice none 0 0) 24 rfl Try.underlying22 info27 rfl (by decide) (by omega) vO out u [.slice A2 u.length c2] (fun k => mid ≤ k) (fun k => W.heap.size ≤ k) rfl rfl ?aP ?aQ ?aF ?aO ?aB ?aS ?aL ?_; (case aP => exact Kd.M_row (Kd.R_mono (Kd.R_lower (Kd.S_R HN2.out) HSZ.out) (fun k hk => hk.2.1))); (case aQ => exact fun k hk => ⟨by have := HSZ.out; omega, fun e => by have := HT.out k e.symm; omega⟩); (case aF => exact fun k hk => by have := HW2.out; omega); (case aO => exact Kd.S_mono HO2.out (fun k hk => ⟨hk.1, by have := hk.2.2.1; omega⟩)); (case aB => exact HB2m.out); (case aS => exact HW2.out); (case aL => have := hL.out; omega); intro v3 w3 ho3 hb3 hg3 hat3; have HO3 := Aside0.mk ho3; have HS3 := Aside0.mk (show Same (fun k => k < mid) w2 w3 from ⟨hg3.os, hg3.tape, hg3.output, hg3.size, fun k hk hl => hg3.block k hl (fun e => by have := Kd.S_base HO2.out k e.symm; omega)⟩); clear ho3 hb3 hg3 hat3))
 go_ret
 have HS := (Same.of_below (K := fun k => k < mid) HB2.out).trans HS3.out
 exact ⟨v3, rfl, ⟨Kd.S_step hF.out.tab (fun k hk hl => HS.block k hk.2 hl), hF.out.wide, Nat.le_trans hF.out.size HS.size, HO3.out⟩, HS.mono (fun k hk => by omega)⟩

set_option maxHeartbeats 4000000 in
set_option maxRecDepth 100000 in
theorem fill_step {lo mid V cv n : Nat} (hn : 1 ≤ n ∧ n ≤ 1000) (hlm : lo ≤ mid) (rec : Nat → FS → Option FS)
 (ih : Aside0 (∀ (p : Nat) (t t' : List (List Int)) (out out' : List (List (List Int))) (vO : Value) (W : World), p ≤ n * n → Fi lo mid V cv n W t vO out → rec p (t, out) = some (t', out') →
  Calls Try.prog 39 #[.slice (some ⟨V, 0, none⟩) n cv, .int .i64 p, vO] W fun e W' => ∃ v, e = .returned v ∧ Fi lo mid V cv n W' t' v out' ∧ Same (fun k => k < lo) W W'))
 (p i j : Nat) (hp : p < n * n) (hi0 : Aside0 (i = p / n)) (hj0 : Aside0 (j = p % n)) (t t' : List (List Int)) (out out' : List (List (List Int))) (vO : Value) (W : World) (hF : Aside0 (Fi lo mid V cv n W t vO out))
 (hr : Aside0 (fillTry rec n p i j (rowS t i j) (colS t j i) 3 (t, out) = some (t', out'))) :
 Calls Try.prog 39 #[.slice (some ⟨V, 0, none⟩) n cv, .int .i64 p, vO] W fun e W' => ∃ v, e = .returned v ∧ Fi lo mid V cv n W' (t'.set i ((rd_L1 t' (i : Int)).set j 0)) v out' ∧ Same (fun k => k < lo) W W' := by
 have n1 : 1 ≤ (n : Int) := by omega
 have n2 : (n : Int) ≤ 1000 := by omega
 have h1 : (n : Int) * n ≤ 1000 * 1000 := Int.mul_le_mul n2 n2 (by omega) (by omega)
 have h2 : 0 ≤ (n : Int) * n := Int.mul_nonneg (by omega) (by omega)
 have hq0 : wrap64 ((n : Int) * n) = (n : Int) * n := by unfold wrap64; omega
 have hnn : ((n * n : Nat) : Int) = (n : Int) * n := by simp
 have hp' : (p : Int) < (n : Int) * n := by omega
 have hq : ((p : Int) == wrap64 ((n : Int) * n)) = false := by
   rw [hq0]
   simp only [beq_eq_false_iff_ne]
   omega
 have hn0 : ¬ ((n : Int) = 0) := by omega
 have i1 : i < n := by rw [hi0.out]; exact Nat.div_lt_of_lt_mul hp
 have j1 : j < n := by rw [hj0.out]; exact Nat.mod_lt _ (by omega)
 have hI : wrap64 ((p : Int) / (n : Int)) = (i : Int) := by
   have e : ((p : Int) / (n : Int)) = (i : Int) := by rw [hi0.out]; simp
   rw [e]
   unfold wrap64
   omega
 have hJ : (p : Int) % (n : Int) = (j : Int) := by rw [hj0.out]; simp
 have P1 := Aside0.mk hp
 have P4 : Aside0 ((p : Int) ≤ 1000000) := ⟨by omega⟩
 have P2 := Aside0.mk hp'
 have P3 := Aside0.mk hnn
 clear hq0 h1 h2 hp hp' hnn
 go_enter Try.func39, Try.ntmps39
 go_wp2_with (fail)
 go_quiet (fail)
 go_wp2
 simp only [hI, hJ]
 go_loopg [10, 12] j (fun kq v10 v12 w' => ∃ x : Nat, v12 = .int .i64 (x : Int) ∧ v10 = .int .i64 (rowS t i x) ∧ Aside0 (x + kq = j) ∧ Drawn0 W w')
 case atStart => exact ⟨0, rfl, rfl, ⟨by omega⟩, dr_⟩
 case round =>
   obtain ⟨x, rfl, rfl, HK, ⟨m1, rfl⟩⟩ := hrel
   cases gk with
   | zero =>
    have hx : decide ((x : Int) < (j : Int)) = false := decide_eq_false (by have := HK.out; omega)
    obtain rfl : j = x := by have := HK.out; omega
    go_wp2
    obtain ⟨r, hr1⟩ : ∃ r : Int, rowS t i j = r := ⟨_, rfl⟩
    rw [hr1] at hr ⊢
    clear hx HK hr1
    go_loopg [11, 13] i (fun kq v11 v13 w' => ∃ x : Nat, v13 = .int .i64 (x : Int) ∧ v11 = .int .i64 (colS t j x) ∧ Aside0 (x + kq = i) ∧ Drawn0 W w')
    case atStart => exact ⟨0, rfl, rfl, ⟨by omega⟩, dr_⟩
    case round =>
     obtain ⟨x, rfl, rfl, HK, ⟨m2, rfl⟩⟩ := hrel
     cases gk with
     | zero =>
      have hx : decide ((x : Int) < (i : Int)) = false := decide_eq_false (by have := HK.out; omega)
      obtain rfl : i = x := by have := HK.out; omega
      go_wp2
      obtain ⟨c, hc1⟩ : ∃ c : Int, colS t j i = c := ⟨_, rfl⟩
      rw [hc1] at hr ⊢
      clear hx HK hc1
      have HF0 := Aside0.mk (hF.out.drewN m2)
      clear hF
      go_loopg [2, 14] 3 (fun kq v2 v14 w' => ∃ (x : Int) (t1 : List (List Int)) (o1 : List (List (List Int))), v14 = .int .i64 x ∧ -1 ≤ x ∧ x ≤ 2 ∧ Aside0 (x = 2 - (kq : Int)) ∧ Aside0 (kq ≤ 3) ∧ Aside0 (fillTry rec n p i j r c kq (t1, o1) = some (t', out')) ∧ Aside0 (Fi lo mid V cv n w' t1 v2 o1) ∧ Aside0 (Same (fun k => k < lo) W w'))
      case atStart => exact ⟨-1, t, out, rfl, by omega, by omega, ⟨by omega⟩, ⟨by omega⟩, hr, HF0, ⟨Same.drewN _ _⟩⟩
      case round =>
       clear hr HF0 hq hI hJ
       obtain ⟨x, t1, o1, rfl, x0, x2, X, HK, HA, HFi, HSm⟩ := hrel
       cases gk with
       | zero =>
        have hx : decide (x ≤ 1) = false := decide_eq_false (by have := X.out; omega)
        have H := Option.some.inj HA.out
        obtain ⟨rfl, rfl⟩ := Prod.mk.inj H
        clear HA H
        obtain ⟨g, c9, hv, hg1, hg2, hx9, hf9, hput⟩ := HFi.out.place (i : Int) (j : Int) (by omega) (by omega) (by omega) (by omega)
        rw [Int.toNat_natCast] at hv hx9 hf9
        have HPUT := Aside0.mk hput
        have HG1 := Aside0.mk (And.intro hg1 hg2)
        clear hput hg1 hg2
        have i2 : decide (i < n) = true := decide_eq_true i1
        have i3 : decide ((i : Int) < (n : Int)) = true := decide_eq_true (by omega)
        have j2 : decide (j < n) = true := decide_eq_true j1
        have j3 : decide ((j : Int) < (n : Int)) = true := decide_eq_true (by omega)
        go_wp2
        go_ret
        have hp0 := HPUT.out 0
        rw [Int.toNat_natCast, Int.toNat_natCast] at hp0
        exact ⟨_, rfl, hp0, HSm.out.trans (Same.setCell _ _ _ (fun hk => by have := HG1.out; dsimp only at hk; omega))⟩
       | succ k1 =>
        have hx : decide (x ≤ 1) = true := decide_eq_true (by have := X.out; omega)
        have hx1 : (1 - (k1 : Int)) = x := by have := X.out; omega
        have H := HA.out
        clear HA
        rw [fillTry] at H
        rw [hx1] at H
        obtain ⟨a, ha⟩ : ∃ a : Int, wrap64 (r + x) = a := ⟨_, rfl⟩
        obtain ⟨b, hb⟩ : ∃ b : Int, wrap64 (c + x) = b := ⟨_, rfl⟩
        rw [ha, hb] at H
        have haw : (IntKind.i64.wrap (r + x)) = a := (i64_w _).trans ha
        have hbw : (IntKind.i64.wrap (c + x)) = b := (i64_w _).trans hb
        have hn1 : wrap64 ((n : Int) - 1) = (n : Int) - 1 := by unfold wrap64; omega
        have hn1w : (IntKind.i64.wrap ((n : Int) - 1)) = (n : Int) - 1 := (i64_w _).trans hn1
        have HH := Aside0.mk H
        have HX := Aside0.mk hx1
        clear H hx1
        go_upto_region 17 with (fail)
        go_cut [110] (fun v110 wc => ∃ b9 : Bool, v110 = .bool b9 ∧ Aside0 (b9 = skipB n i j a b) ∧ Aside0 (Fi lo mid V cv n wc t1 u2 o1) ∧ Aside0 (Same (fun k => k < lo) W wc))
        case first =>
         by_cases e1 : a < 0
         · have e1h := Aside0.mk e1
           have e1b0 : decide (a < 0) = true := decide_eq_true e1
           clear e1
           go_wp2
           repeat (go_quiet (fail); try go_wp2)
           go_meet
           case rel => exact ⟨true, rfl, ⟨by have e1q := e1h.out; unfold skipB; exact (decide_eq_true (by omega)).symm⟩, ⟨by repeat (first | exact HFi.out | apply Fi.drewN | apply Fi.drew)⟩, ⟨by repeat (first | exact HSm.out | (refine Same.trans ?_ (Same.drewN _ _)))⟩⟩
         · have e1h := Aside0.mk e1
           have e1b0 : decide (a < 0) = false := decide_eq_false e1
           clear e1
           by_cases e2 : 1 < a
           · have e2h := Aside0.mk e2
             have e2b0 : decide (1 < a) = true := decide_eq_true e2
             clear e2
             go_wp2
             repeat (go_quiet (fail); try go_wp2)
             go_meet
             case rel => exact ⟨true, rfl, ⟨by have e1q := e1h.out; have e2q := e2h.out; unfold skipB; exact (decide_eq_true (by omega)).symm⟩, ⟨by repeat (first | exact HFi.out | apply Fi.drewN | apply Fi.drew)⟩, ⟨by repeat (first | exact HSm.out | (refine Same.trans ?_ (Same.drewN _ _)))⟩⟩
           · have e2h := Aside0.mk e2
             have e2b0 : decide (1 < a) = false := decide_eq_false e2
             clear e2
             by_cases e3 : b < 0
             · have e3h := Aside0.mk e3
               have e3b0 : decide (b < 0) = true := decide_eq_true e3
               clear e3
               go_wp2
               repeat (go_quiet (fail); try go_wp2)
               go_meet
               case rel => exact ⟨true, rfl, ⟨by have e1q := e1h.out; have e2q := e2h.out; have e3q := e3h.out; unfold skipB; exact (decide_eq_true (by omega)).symm⟩, ⟨by repeat (first | exact HFi.out | apply Fi.drewN | apply Fi.drew)⟩, ⟨by repeat (first | exact HSm.out | (refine Same.trans ?_ (Same.drewN _ _)))⟩⟩
             · have e3h := Aside0.mk e3
               have e3b0 : decide (b < 0) = false := decide_eq_false e3
               clear e3
               by_cases e4 : 1 < b
               · have e4h := Aside0.mk e4
                 have e4b0 : decide (1 < b) = true := decide_eq_true e4
                 clear e4
                 go_wp2
                 repeat (go_quiet (fail); try go_wp2)
                 go_meet
                 case rel => exact ⟨true, rfl, ⟨by have e1q := e1h.out; have e2q := e2h.out; have e3q := e3h.out; have e4q := e4h.out; unfold skipB; exact (decide_eq_true (by omega)).symm⟩, ⟨by repeat (first | exact HFi.out | apply Fi.drewN | apply Fi.drew)⟩, ⟨by repeat (first | exact HSm.out | (refine Same.trans ?_ (Same.drewN _ _)))⟩⟩
               · have e4h := Aside0.mk e4
                 have e4b0 : decide (1 < b) = false := decide_eq_false e4
                 clear e4
                 by_cases e5 : (j : Int) = (n : Int) - 1
                 · have e5h := Aside0.mk e5
                   have e5b0 : ((j : Int) == (n : Int) - 1) = true := beq_iff_eq.mpr e5
                   have e5b1 : ((j : Int) != (n : Int) - 1) = false := bne_eq_false_iff_eq.mpr e5
                   clear e5
                   by_cases e6 : a = 1
                   · have e6h := Aside0.mk e6
                     have e6b0 : (a == 1) = true := beq_iff_eq.mpr e6
                     have e6b1 : (a != 1) = false := bne_eq_false_iff_eq.mpr e6
                     clear e6
                     by_cases e7 : (i : Int) = (n : Int) - 1
                     · have e7h := Aside0.mk e7
                       have e7b0 : ((i : Int) == (n : Int) - 1) = true := beq_iff_eq.mpr e7
                       have e7b1 : ((i : Int) != (n : Int) - 1) = false := bne_eq_false_iff_eq.mpr e7
                       clear e7
                       by_cases e8 : b = 1
                       · have e8h := Aside0.mk e8
                         have e8b0 : (b == 1) = true := beq_iff_eq.mpr e8
                         have e8b1 : (b != 1) = false := bne_eq_false_iff_eq.mpr e8
                         clear e8
                         go_wp2
                         repeat (go_quiet (fail); try go_wp2)
                         go_meet
                         case rel => exact ⟨false, rfl, ⟨by have e1q := e1h.out; have e2q := e2h.out; have e3q := e3h.out; have e4q := e4h.out; have e5q := e5h.out; have e6q := e6h.out; have e7q := e7h.out; have e8q := e8h.out; unfold skipB; exact (decide_eq_false (by omega)).symm⟩, ⟨by repeat (first | exact HFi.out | apply Fi.drewN | apply Fi.drew)⟩, ⟨by repeat (first | exact HSm.out | (refine Same.trans ?_ (Same.drewN _ _)))⟩⟩
                       · have e8h := Aside0.mk e8
                         have e8b0 : (b == 1) = false := beq_eq_false_iff_ne.mpr e8
                         have e8b1 : (b != 1) = true := bne_iff_ne.mpr e8
                         clear e8
                         go_wp2
                         repeat (go_quiet (fail); try go_wp2)
                         go_meet
                         case rel => exact ⟨true, rfl, ⟨by have e1q := e1h.out; have e2q := e2h.out; have e3q := e3h.out; have e4q := e4h.out; have e5q := e5h.out; have e6q := e6h.out; have e7q := e7h.out; have e8q := e8h.out; unfold skipB; exact (decide_eq_true (by omega)).symm⟩, ⟨by repeat (first | exact HFi.out | apply Fi.drewN | apply Fi.drew)⟩, ⟨by repeat (first | exact HSm.out | (refine Same.trans ?_ (Same.drewN _ _)))⟩⟩
                     · have e7h := Aside0.mk e7
                       have e7b0 : ((i : Int) == (n : Int) - 1) = false := beq_eq_false_iff_ne.mpr e7
                       have e7b1 : ((i : Int) != (n : Int) - 1) = true := bne_iff_ne.mpr e7
                       clear e7
                       go_wp2
                       repeat (go_quiet (fail); try go_wp2)
                       go_meet
                       case rel => exact ⟨false, rfl, ⟨by have e1q := e1h.out; have e2q := e2h.out; have e3q := e3h.out; have e4q := e4h.out; have e5q := e5h.out; have e6q := e6h.out; have e7q := e7h.out; unfold skipB; exact (decide_eq_false (by omega)).symm⟩, ⟨by repeat (first | exact HFi.out | apply Fi.drewN | apply Fi.drew)⟩, ⟨by repeat (first | exact HSm.out | (refine Same.trans ?_ (Same.drewN _ _)))⟩⟩
                   · have e6h := Aside0.mk e6
                     have e6b0 : (a == 1) = false := beq_eq_false_iff_ne.mpr e6
                     have e6b1 : (a != 1) = true := bne_iff_ne.mpr e6
                     clear e6
                     go_wp2
                     repeat (go_quiet (fail); try go_wp2)
                     go_meet
                     case rel => exact ⟨true, rfl, ⟨by have e1q := e1h.out; have e2q := e2h.out; have e3q := e3h.out; have e4q := e4h.out; have e5q := e5h.out; have e6q := e6h.out; unfold skipB; exact (decide_eq_true (by omega)).symm⟩, ⟨by repeat (first | exact HFi.out | apply Fi.drewN | apply Fi.drew)⟩, ⟨by repeat (first | exact HSm.out | (refine Same.trans ?_ (Same.drewN _ _)))⟩⟩
                 · have e5h := Aside0.mk e5
                   have e5b0 : ((j : Int) == (n : Int) - 1) = false := beq_eq_false_iff_ne.mpr e5
                   have e5b1 : ((j : Int) != (n : Int) - 1) = true := bne_iff_ne.mpr e5
                   clear e5
                   by_cases e9 : (i : Int) = (n : Int) - 1
                   · have e9h := Aside0.mk e9
                     have e9b0 : ((i : Int) == (n : Int) - 1) = true := beq_iff_eq.mpr e9
                     have e9b1 : ((i : Int) != (n : Int) - 1) = false := bne_eq_false_iff_eq.mpr e9
                     clear e9
                     by_cases e10 : b = 1
                     · have e10h := Aside0.mk e10
                       have e10b0 : (b == 1) = true := beq_iff_eq.mpr e10
                       have e10b1 : (b != 1) = false := bne_eq_false_iff_eq.mpr e10
                       clear e10
                       go_wp2
                       repeat (go_quiet (fail); try go_wp2)
                       go_meet
                       case rel => exact ⟨false, rfl, ⟨by have e1q := e1h.out; have e2q := e2h.out; have e3q := e3h.out; have e4q := e4h.out; have e5q := e5h.out; have e9q := e9h.out; have e10q := e10h.out; unfold skipB; exact (decide_eq_false (by omega)).symm⟩, ⟨by repeat (first | exact HFi.out | apply Fi.drewN | apply Fi.drew)⟩, ⟨by repeat (first | exact HSm.out | (refine Same.trans ?_ (Same.drewN _ _)))⟩⟩
                     · have e10h := Aside0.mk e10
                       have e10b0 : (b == 1) = false := beq_eq_false_iff_ne.mpr e10
                       have e10b1 : (b != 1) = true := bne_iff_ne.mpr e10
                       clear e10
                       go_wp2
                       repeat (go_quiet (fail); try go_wp2)
                       go_meet
                       case rel => exact ⟨true, rfl, ⟨by have e1q := e1h.out; have e2q := e2h.out; have e3q := e3h.out; have e4q := e4h.out; have e5q := e5h.out; have e9q := e9h.out; have e10q := e10h.out; unfold skipB; exact (decide_eq_true (by omega)).symm⟩, ⟨by repeat (first | exact HFi.out | apply Fi.drewN | apply Fi.drew)⟩, ⟨by repeat (first | exact HSm.out | (refine Same.trans ?_ (Same.drewN _ _)))⟩⟩
                   · have e9h := Aside0.mk e9
                     have e9b0 : ((i : Int) == (n : Int) - 1) = false := beq_eq_false_iff_ne.mpr e9
                     have e9b1 : ((i : Int) != (n : Int) - 1) = true := bne_iff_ne.mpr e9
                     clear e9
                     go_wp2
                     repeat (go_quiet (fail); try go_wp2)
                     go_meet
                     case rel => exact ⟨false, rfl, ⟨by have e1q := e1h.out; have e2q := e2h.out; have e3q := e3h.out; have e4q := e4h.out; have e5q := e5h.out; have e9q := e9h.out; unfold skipB; exact (decide_eq_false (by omega)).symm⟩, ⟨by repeat (first | exact HFi.out | apply Fi.drewN | apply Fi.drew)⟩, ⟨by repeat (first | exact HSm.out | (refine Same.trans ?_ (Same.drewN _ _)))⟩⟩
        obtain ⟨b9, rfl, HE9, HFc, HSc⟩ := hcut
        clear HFi HSm ha hb haw hbw hn1 hn1w hx
        have HFi := HFc
        have HSm := HSc
        clear HFc HSc
        cases b9 with
        | true =>
         have H := HH.out
         rw [if_pos HE9.out.symm] at H
         have HR := Aside0.mk H
         clear H HH
         go_wp2
         go_roundg k1
         case measure => have := HK.out; omega
         case rel => exact ⟨x + 1, t1, o1, rf_, by omega, by have := X.out; omega, ⟨by have := X.out; omega⟩, ⟨by have := HK.out; omega⟩, HR, HFi, HSm⟩
        | false =>
         have H := HH.out
         rw [if_neg (by rw [← HE9.out]; decide)] at H
         obtain ⟨⟨t2, o2⟩, hy, hz⟩ := Option.bind_eq_some_iff.mp H
         have HR := Aside0.mk hz
         have HY := Aside0.mk hy
         clear H HH hy hz
         obtain ⟨g, c9, hv, hg1, hg2, hx9, hf9, hput⟩ := HFi.out.place (i : Int) (j : Int) (by omega) (by omega) (by omega) (by omega)
         rw [Int.toNat_natCast] at hv hx9 hf9
         have HPUT := Aside0.mk hput
         have HG1 := Aside0.mk (And.intro hg1 hg2)
         clear hput hg1 hg2
         have i2 : decide (i < n) = true := decide_eq_true i1
         have i3 : decide ((i : Int) < (n : Int)) = true := decide_eq_true (by omega)
         have j2 : decide (j < n) = true := decide_eq_true j1
         have j3 : decide ((j : Int) < (n : Int)) = true := decide_eq_true (by omega)
         have hp0 := HPUT.out x
         rw [Int.toNat_natCast, Int.toNat_natCast] at hp0
         have hi := ih.out (p + 1) _ t2 _ o2 u2 _ (by have := P1.out; omega) hp0 HY.out
         have hp1 : ((p + 1 : Nat) : Int) = wrap64 ((p : Int) + 1) := by have := P4.out; unfold wrap64; omega
         rw [hp1] at hi
         have HI := Aside0.mk hi
         have HS2 := Aside0.mk (HSm.out.trans (Same.setCell (K := fun k => k < lo) wc ⟨g, j, none⟩ (.int .i64 x) (fun hk => by have := HG1.out; dsimp only at hk; omega)))
         clear hp0 hi hp1
         go_wp2_with (go_at_call 39; refine HI.out.mono ?_; rintro e w4 ⟨v4, rfl, F4, S4⟩; have HF4 := Aside0.mk F4; have HS4 := Aside0.mk (HS2.out.trans S4); clear F4 S4)
         go_roundg k1
         case measure => have := HK.out; omega
         case rel => exact ⟨x + 1, t2, o2, rf_, by omega, by have := X.out; omega, ⟨by have := X.out; omega⟩, ⟨by have := HK.out; omega⟩, HR, HF4, HS4⟩
     | succ k1 =>
      have hlt : x < i := by have := HK.out; omega
      have hx : decide ((x : Int) < (i : Int)) = true := decide_eq_true (by omega)
      obtain ⟨g, c9, hv, hg1, hg2, hx9, hf9, hput⟩ := hF.out.place (x : Int) (j : Int) (by omega) (by omega) (by omega) (by omega)
      rw [Int.toNat_natCast] at hv hx9
      clear hput hf9 hg1 hg2
      have i2 : decide (x < n) = true := decide_eq_true (by omega)
      have i3 : decide ((x : Int) < (n : Int)) = true := decide_eq_true (by omega)
      have j2 : decide (j < n) = true := decide_eq_true j1
      have j3 : decide ((j : Int) < (n : Int)) = true := decide_eq_true (by omega)
      go_wp2
      go_roundg k1
      case measure => omega
      case rel => exact ⟨x + 1, rf_, rfl, ⟨by have := HK.out; omega⟩, dr_⟩
   | succ k1 =>
    have hlt : x < j := by have := HK.out; omega
    have hx : decide ((x : Int) < (j : Int)) = true := decide_eq_true (by omega)
    obtain ⟨g, c9, hv, hg1, hg2, hx9, hf9, hput⟩ := hF.out.place (i : Int) (x : Int) (by omega) (by omega) (by omega) (by omega)
    rw [Int.toNat_natCast] at hv hx9
    clear hput hf9 hg1 hg2
    have i2 : decide (i < n) = true := decide_eq_true i1
    have i3 : decide ((i : Int) < (n : Int)) = true := decide_eq_true (by omega)
    have j2 : decide (x < n) = true := decide_eq_true (by omega)
    have j3 : decide ((x : Int) < (n : Int)) = true := decide_eq_true (by omega)
    go_wp2
    go_roundg k1
    case measure => omega
    case rel => exact ⟨x + 1, rf_, rfl, ⟨by have := HK.out; omega⟩, dr_⟩

/-- The walk of fill, for a table of n rows and columns. -/
theorem fill_calls {lo mid V cv n : Nat} (hn : 1 ≤ n ∧ n ≤ 1000) (hlm : lo ≤ mid) (k : Nat) : ∀ (p : Nat) (t t' : List (List Int)) (out out' : List (List (List Int))) (vO : Value) (W : World), p ≤ n * n → Fi lo mid V cv n W t vO out → fillF n k p (t, out) = some (t', out') →
 Calls Try.prog 39 #[.slice (some ⟨V, 0, none⟩) n cv, .int .i64 p, vO] W fun e W' => ∃ v, e = .returned v ∧ Fi lo mid V cv n W' t' v out' ∧ Same (fun k => k < lo) W W' := by
 induction k with
 | zero => intro p t t' out out' vO W hp hF h; simp [fillF] at h
 | succ k ih =>
  intro p t t' out out' vO W hp hF h
  simp only [fillF] at h
  by_cases e : p = n * n
  · rw [if_pos e] at h
    subst e
    obtain ⟨u, hu, h⟩ := Option.bind_eq_some_iff.mp h
    by_cases hL : out.length < 5864062014805
    · rw [if_pos hL] at h
      obtain ⟨rfl, rfl⟩ := Prod.mk.inj (Option.some.inj h)
      exact fill_end hn hlm t u out vO W ⟨hF⟩ ⟨hu⟩ ⟨hL⟩
    · rw [if_neg hL] at h
      cases h
  · rw [if_neg e] at h
    obtain ⟨⟨t1, o1⟩, hy, hz⟩ := Option.map_eq_some_iff.mp h
    obtain ⟨rfl, rfl⟩ := Prod.mk.inj hz
    exact fill_step hn hlm (fillF n k) ⟨ih⟩ p (p / n) (p % n) (by omega) ⟨rfl⟩ ⟨rfl⟩ t t1 out o1 vO W ⟨hF⟩ ⟨hy⟩
end Go.Proofs.Ytdinepghommchaa.V

/- fill from the first place on, with an empty list: the contract for its callers. -/
namespace Go.Proofs.Ytdinepghommchaa.V
open Go.RowKit Go.Proofs.YtdinepghommchaaW.PrintWords Go.Proofs.YtdinepghommchaaW.PrintLast Go.Proofs.YtdinepghommchaaW.PrintMore
theorem Same.below0 {b : Nat} {A B : World} (h : Same (fun k => k < b) A B) (hb : b ≤ A.heap.size) : Below b A B := ⟨h.os, h.tape, h.output, h.size, fun k hk => h.block k hk (by omega)⟩
def clocheref09_fill.f (k : Nat) (t : List (List Int)) (p : Int) (out : List (List (List Int))) : Option (List (List (List Int))) :=
  if p = 0 ∧ out = [] ∧ 1 ≤ t.length ∧ t.length ≤ 1000 ∧ (t.all fun r => decide (r.length = t.length)) = true then (fillF t.length 100 0 (t, [])).map (fun z => z.2) else none
theorem clocheref09_fill.own (k lo : Nat) (A : Option Addr) (c : Nat) (t : List (List Int)) (r : List (List (List Int))) (w : World) (h : Kd.S (Kd.slice 3 (Kd.int .i64)) 28 w lo (fun _ => True) (.slice A t.length c) t) (hlo : lo ≤ w.heap.size) (hk : clocheref09_fill.f k t 0 [] = some r) :
    Calls Try.prog 39 #[.slice A t.length c, .int .i64 0, .slice none 0 0] w fun e w' => ∃ v, e = .returned v ∧ Kd.R (Kd.slice 28 (Kd.slice 3 (Kd.int .i64))) 27 w' w.heap.size (fun _ => True) v r ∧ Same (fun k => k < lo) w w' := by
  unfold clocheref09_fill.f at hk
  by_cases hc : ((0 : Int) = 0 ∧ ([] : List (List (List Int))) = [] ∧ 1 ≤ t.length ∧ t.length ≤ 1000 ∧ (t.all fun r => decide (r.length = t.length)) = true)
  · rw [if_pos hc] at hk
    obtain ⟨_, _, h1, h2, h3⟩ := hc
    obtain ⟨⟨t', o'⟩, hy, rfl⟩ := Option.map_eq_some_iff.mp hk
    obtain ⟨g, cap, e, _, _, _⟩ := Kd.S_form h (by omega)
    injection e with eA en ec
    subst eA ec
    have hF : Fi lo w.heap.size g c t.length w t (.slice none 0 0) [] :=
      ⟨Kd.S_mono (Kd.S_bound h) (fun k hk => ⟨hk.2.1, hk.2.2.1⟩), fun i hi => by
        have := List.all_eq_true.mp h3 t[i] (List.getElem_mem hi)
        rw [List.getD_eq_getElem?_getD, List.getElem?_eq_getElem hi]
        simpa using this, Nat.le_refl _, Kd.S_nil _ _ _ _ _⟩
    have z := fill_calls ⟨h1, h2⟩ hlo 100 0 t t' [] o' (.slice none 0 0) w (by omega) hF hy
    exact z.mono fun e w' ⟨v, he, hF', hs⟩ => ⟨v, he, Kd.R_mono (Kd.S_R hF'.out) (fun _ _ => trivial), hs⟩
  · rw [if_neg hc] at hk
    cases hk
end Go.Proofs.Ytdinepghommchaa.V

-- Written by a program of this session over the kit's printer: wip/gp.py.
namespace Go.Proofs.Ytdinepghommchaa.V
open Go.RowKit Go.Proofs.YtdinepghommchaaW.PrintWords Go.Proofs.YtdinepghommchaaW.PrintLast Go.Proofs.YtdinepghommchaaW.PrintMore
attribute [local go_sem] max2_int min2_int max_two min_two max_three min_three max_four min_four   -- for this text's walks alone
set_option linter.unusedVariables false
set_option linter.unusedSimpArgs false

/-! ### clocheref09_zeros: function 40 -/
def clocheref09_zeros.l0 : Nat → Int → List (List Int) → Int → Option ((List (List Int)))
 | 0, _, _, _ => none
 | k + 1, x0, x3, x4 => if x4 < x0 then (if 0 ≤ x0 then (if (x0 : Int).toNat ≤ 35184372088832 then (if x3.length < 5864062014805 then (clocheref09_zeros.l0 k x0 (x3 ++ [(List.replicate (x0 : Int).toNat 0)]) (wrap64 (x4 + 1))) else (none)) else (none)) else (none)) else (some x3)
def clocheref09_zeros.f (k : Nat) (a0 : Int) : Option ((List (List Int))) := clocheref09_zeros.l0 k a0 ([] : List (List Int)) 0
theorem clocheref09_zeros.mono_l : ∀ k, (∀ y0 y1 y2, LeO (clocheref09_zeros.l0 k y0 y1 y2) (clocheref09_zeros.l0 (k + 1) y0 y1 y2))
 | 0 => fun _ _ _ r h => by simp [clocheref09_zeros.l0] at h
 | k + 1 => by
  have ih0 := clocheref09_zeros.mono_l k
  · intro y0 y1 y2
    unfold clocheref09_zeros.l0
    repeat' first
    | (with_reducible exact ih0 _ _ _)
    | (with_reducible exact LeO.refl _)
    | (with_reducible exact LeO.none _)
    | (with_reducible refine LeO.ite ?_ ?_)
    | (with_reducible refine LeO.bind ?_ (fun _ => ?_))
    | exact ih0 _ _ _
    | exact LeO.none _
    | refine LeO.ite ?_ ?_
    | refine LeO.bind ?_ (fun _ => ?_)
theorem clocheref09_zeros.mono : ∀ a0 k, LeO (clocheref09_zeros.f k a0) (clocheref09_zeros.f (k + 1) a0) := by
 intro a0 k
 have ih0 := clocheref09_zeros.mono_l k
 unfold clocheref09_zeros.f
 repeat' first
  | (with_reducible exact ih0 _ _ _)
  | (with_reducible exact LeO.refl _)
  | (with_reducible exact LeO.none _)
  | (with_reducible refine LeO.ite ?_ ?_)
  | (with_reducible refine LeO.bind ?_ (fun _ => ?_))
  | exact ih0 _ _ _
  | exact LeO.none _
  | refine LeO.ite ?_ ?_
  | refine LeO.bind ?_ (fun _ => ?_)
set_option maxHeartbeats 8000000 in
set_option maxRecDepth 100000 in
theorem clocheref09_zeros.calls (k : Nat) (a0 : Int) (r : List (List Int)) (w : World) (h : clocheref09_zeros.f k a0 = some r) :
 Calls Try.prog 40 #[.int .i64 a0] w fun e w' => ∃ v0_ : Value, e = .returned (v0_) ∧ Kd.S (Kd.slice 3 (Kd.int .i64)) 28 w' w.heap.size (fun _ => True) v0_ r ∧ Below w.heap.size w w' := by
 have HB := Aside0.mk (Below.refl w.heap.size w)
 have H : (clocheref09_zeros.l0 k a0 ([] : List (List Int)) 0) = some r := h
 clear h
 have H' := Aside0.mk H
 clear H
 go_enter Try.func40, Try.ntmps40
 go_wp2
 go_loopg [3, 4] k (fun kq v3 v4 w' => ∃ (x3_1 : List (List Int)) (x4_1 : Int), v4 = .int .i64 x4_1 ∧ Aside0 (clocheref09_zeros.l0 kq a0 x3_1 x4_1 = some r) ∧ Aside0 (kq ≤ k) ∧ Aside0 (Kd.S (Kd.slice 3 (Kd.int .i64)) 28 w' w.heap.size (fun _ => True) v3 x3_1) ∧ Aside0 (Below w.heap.size w w'))
 case atStart => exact ⟨(([] : List (List Int))), (0), rf_, H', ⟨Nat.le_refl _⟩, ⟨by first | exact Kd.S_nil _ _ _ _ _ | exact Kd.N_nil _ _ _ _ _ | exact Kd.V_nil _ _ _ _ _ | exact Kd.Q_nil _ _ _ _ _ | exact Kd.R_nil _ _ _ _ _⟩, ⟨bel_⟩⟩
 case round =>
  clear H'
  obtain ⟨x3_1, x4_1, rfl, HA, HK1, HO_3, HB⟩ := hrel
  cases gk with
  | zero => exact absurd HA.out (by simp [clocheref09_zeros.l0])
  | succ k1 =>
    have H := HA.out
    clear HA
    simp only [clocheref09_zeros.l0] at H
    by_cases c2 : x4_1 < a0
    · rw [if_pos c2] at H
      have c2b0 : decide (x4_1 < a0) = true := decide_eq_true c2
      clear c2
      by_cases c3 : 0 ≤ a0
      · rw [if_pos c3] at H
        have c3b0 := eq_true c3
        have c3b1 : decide (0 ≤ a0) = true := decide_eq_true c3
        clear c3
        by_cases c4 : (a0 : Int).toNat ≤ 35184372088832
        · rw [if_pos c4] at H
          have c4b0 := eq_true c4
          have c4b1 : decide ((a0 : Int).toNat ≤ 35184372088832) = true := decide_eq_true c4
          clear c4
          obtain ⟨y108, hy108⟩ : ∃ y_ : List Int, y_ = (List.replicate (a0 : Int).toNat 0) := ⟨_, rfl⟩
          replace H : (if x3_1.length < 5864062014805 then (clocheref09_zeros.l0 k1 a0 (x3_1 ++ [y108]) (wrap64 (x4_1 + 1))) else (none)) = some r := by first | (rw [hy108]; with_reducible exact H) | (have H2_ := (Option.bind_some _ _).symm.trans H; rw [hy108]; with_reducible exact H2_) | (have H2_ := (Option.bind_some _ _).symm.trans H; with_reducible exact H2_) | with_reducible exact H | (rw [hy108]; exact H) | exact H
          have Ny108 := Aside0.mk hy108
          clear hy108
          by_cases c5 : x3_1.length < 5864062014805
          · rw [if_pos c5] at H
            have LMc5 := Aside0.mk c5
            clear c5
            obtain ⟨y111, hy111⟩ : ∃ y_ : List (List Int), y_ = (x3_1 ++ [y108]) := ⟨_, rfl⟩
            replace H : (clocheref09_zeros.l0 k1 a0 y111 (wrap64 (x4_1 + 1))) = some r := by first | (rw [hy111]; with_reducible exact H) | (have H2_ := (Option.bind_some _ _).symm.trans H; rw [hy111]; with_reducible exact H2_) | (have H2_ := (Option.bind_some _ _).symm.trans H; with_reducible exact H2_) | with_reducible exact H | (rw [hy111]; exact H) | exact H
            have Ny111 := Aside0.mk hy111
            clear hy111
            have H' := Aside0.mk H
            clear H
            go_wp2_with (first | ((with_reducible refine gate_dst (N := 12) rfl ?_); refine Kd.R_make (Kd.int .i64) _ 3 rfl (N := 12) rfl 28 _ _ rfl a0 rfl rfl Try.underlying28 (.int .i64 0) 8 info3 rfl (by decide) (by omega) 0 (ok := fun _ => True) (okp := fun _ => True) rfl (fun _ hk => hk) trivial (od_) (Nat.le_trans (Nat.mul_le_mul_right _ (od_ : a0.toNat ≤ 35184372088832)) (by omega)) (Below.refl _ _) (Nat.le_refl _) ?_; intro v109 w6 ho7 hb hg_ hnew_; clear hg_ hnew_; (first | rw [← Ny108.out] at ho7 | (simp only [Int.reduceToNat] at ho7; rw [← Ny108.out] at ho7)); have n0_ := Aside0.mk (Kd.S_elder' (nS_ HO_3.out) (Kd.R_base ho7) hb); have n1_ := Aside0.mk (Kd.R_lower ho7 (below_size (bel_))); have n2_ := Aside0.mk (below_step (bel_) hb); clear HO_3; clear HB; have HO_3 := n0_; have HO110 := n1_; have HB := n2_; clear n0_ n1_ n2_; clear hb ho7; obtain ⟨Ao9, co9, eo9⟩ := Kd.R_slice HO110.out; subst eo9) | ((with_reducible refine gate_builtin (b := .append) (xs := #[.tmp 10, .tmp 13]) rfl ?_); at_builtin; refine Kd.S_append (Kd.slice 3 (Kd.int .i64)) (w0 := w) w.heap.size rfl (.tmp 10) (.tmp 13) 27 28 (.slice none 0 0) 24 rfl Try.underlying27 info28 rfl (by decide) (by omega) u3 x3_1 y108 [.slice Ao9 y108.length co9] (fun _ => True) (fun k_ => some k_ = (.slice Ao9 y108.length co9 : Value).ownBlock) rfl rfl ?aP (fun k_ hk_ => ((Kd.R_mono (ok' := fun k_ => ((fun _ => True)) k_ ∧ some k_ ≠ (u3 : Value).ownBlock) (Kd.R_apart' (HO110.out) (Kd.S_typed HO_3.out) (by decide)) (fun k_ hk => ⟨trivial, hk.2⟩))).1 k_ hk_.symm) ?aF ?aO ?aB ?aS ?aL ?_; (case aP => exact Kd.M_row (Kd.R_mono (Kd.R_tight rfl (Kd.R_mono (ok' := fun k_ => ((fun _ => True)) k_ ∧ some k_ ≠ (u3 : Value).ownBlock) (Kd.R_apart' (HO110.out) (Kd.S_typed HO_3.out) (by decide)) (fun k_ hk => ⟨trivial, hk.2⟩))) (fun _ h_ => h_))); (case aB => exact (bel_)); (case aF => exact (fun _ _ => trivial)); (case aO => exact (by (with_reducible repeat (first | apply Kd.S_alloc | apply Kd.S_drewN | apply Kd.S_drew)); exact Kd.S_mono HO_3.out (fun k_ hk => ⟨trivial, fun e_ => hk.2 e_⟩))); (case aS => exact (below_size (bel_))); (case aL => have := LMc5.out; omega); intro v112 w8 ho hb hg hat; rw [← Ny111.out] at ho; have n0_ := Aside0.mk (hb); have n1_ := Aside0.mk (ho); clear HB; clear HO_3; clear HO110; have HB := n0_; have HO113 := n1_; clear n0_ n1_; clear ho hb hg hat))
            go_roundg k1
            case measure => have := HK1.out; omega
            case rel => exact ⟨(y111), (wrap64 (x4_1 + 1)), rf_, H', ⟨by have := HK1.out; omega⟩, ⟨nS_ HO113.out⟩, ⟨bel_⟩⟩
          · rw [if_neg c5] at H
            exact absurd H (by simp)
        · rw [if_neg c4] at H
          exact absurd H (by simp)
      · rw [if_neg c3] at H
        exact absurd H (by simp)
    · rw [if_neg c2] at H
      have c2b0 : decide (x4_1 < a0) = false := decide_eq_false c2
      clear c2
      obtain rfl := Option.some.inj H
      go_wp2
      go_ret
      exact ⟨_, er_, by (with_reducible repeat (first | apply Kd.S_alloc | apply Kd.S_drewN | apply Kd.S_drew)); exact HO_3.out, bel_⟩

end Go.Proofs.Ytdinepghommchaa.V

-- Written by a program of this session over the kit's printer: wip/gp.py.
namespace Go.Proofs.Ytdinepghommchaa.V
open Go.RowKit Go.Proofs.YtdinepghommchaaW.PrintWords Go.Proofs.YtdinepghommchaaW.PrintLast Go.Proofs.YtdinepghommchaaW.PrintMore
attribute [local go_sem] max2_int min2_int max_two min_two max_three min_three max_four min_four   -- for this text's walks alone
set_option linter.unusedVariables false
set_option linter.unusedSimpArgs false

/-! ### clocheref09_heights: function 57 -/
mutual
def clocheref09_heights.l0 : Nat → List (List Int) → Int → List (List Int) → Int → Option ((List (List Int)))
 | 0, _, _, _, _ => none
 | k + 1, x0, x3, x4, x5 => if x5 ≤ x3 then (clocheref09_heights.l1 k x0 x3 x4 x5 0) else (some x4)
def clocheref09_heights.l1 : Nat → List (List Int) → Int → List (List Int) → Int → Int → Option ((List (List Int)))
 | 0, _, _, _, _, _ => none
 | k + 1, x0, x3, x4, x5, x6 => if x6 ≤ x3 then (clocheref09_heights.l2 k x0 x3 x4 x5 x6 0 0) else (clocheref09_heights.l0 k x0 x3 x4 (wrap64 (x5 + 1)))
def clocheref09_heights.l2 : Nat → List (List Int) → Int → List (List Int) → Int → Int → Int → Int → Option ((List (List Int)))
 | 0, _, _, _, _, _, _, _ => none
 | k + 1, x0, x3, x4, x5, x6, x7, x8 => if x8 < x5 then (clocheref09_heights.l3 k x0 x3 x4 x5 x6 x7 x8 0) else (if 0 ≤ x5 then (if x5 < (x4.length : Int) then (if 0 ≤ x6 then (if x6 < ((rd_L1 x4 x5).length : Int) then (clocheref09_heights.l1 k x0 x3 (x4.set (x5 : Int).toNat ((rd_L1 x4 x5).set (x6 : Int).toNat (wrap64 ((wrap64 (x5 + x6)) - (wrap64 (2 * x7)))))) x5 (wrap64 (x6 + 1))) else (none)) else (none)) else (none)) else (none))
def clocheref09_heights.l3 : Nat → List (List Int) → Int → List (List Int) → Int → Int → Int → Int → Int → Option ((List (List Int)))
 | 0, _, _, _, _, _, _, _, _ => none
 | k + 1, x0, x3, x4, x5, x6, x7, x8, x9 => if x9 < x6 then (if 0 ≤ x8 then (if x8 < (x0.length : Int) then (if 0 ≤ x9 then (if x9 < ((rd_L1 x0 x8).length : Int) then (clocheref09_heights.l3 k x0 x3 x4 x5 x6 (wrap64 (x7 + (rd (rd_L1 x0 x8) x9))) x8 (wrap64 (x9 + 1))) else (none)) else (none)) else (none)) else (none)) else (clocheref09_heights.l2 k x0 x3 x4 x5 x6 x7 (wrap64 (x8 + 1)))
end
def clocheref09_heights.f (k : Nat) (l0 : List (List Int)) : Option ((List (List Int))) := (clocheref09_zeros.f k (wrap64 ((l0.length : Int) + 1))).bind fun t314 => (clocheref09_heights.l0 k l0 (l0.length : Int) t314 0)
theorem clocheref09_heights.mono_l : ∀ k, (∀ y0 y1 y2 y3, LeO (clocheref09_heights.l0 k y0 y1 y2 y3) (clocheref09_heights.l0 (k + 1) y0 y1 y2 y3)) ∧ (∀ y0 y1 y2 y3 y4, LeO (clocheref09_heights.l1 k y0 y1 y2 y3 y4) (clocheref09_heights.l1 (k + 1) y0 y1 y2 y3 y4)) ∧ (∀ y0 y1 y2 y3 y4 y5 y6, LeO (clocheref09_heights.l2 k y0 y1 y2 y3 y4 y5 y6) (clocheref09_heights.l2 (k + 1) y0 y1 y2 y3 y4 y5 y6)) ∧ (∀ y0 y1 y2 y3 y4 y5 y6 y7, LeO (clocheref09_heights.l3 k y0 y1 y2 y3 y4 y5 y6 y7) (clocheref09_heights.l3 (k + 1) y0 y1 y2 y3 y4 y5 y6 y7))
 | 0 => ⟨fun _ _ _ _ r h => by simp [clocheref09_heights.l0] at h, fun _ _ _ _ _ r h => by simp [clocheref09_heights.l1] at h, fun _ _ _ _ _ _ _ r h => by simp [clocheref09_heights.l2] at h, fun _ _ _ _ _ _ _ _ r h => by simp [clocheref09_heights.l3] at h⟩
 | k + 1 => by
  obtain ⟨ih0, ih1, ih2, ih3⟩ := clocheref09_heights.mono_l k
  refine ⟨?_, ?_, ?_, ?_⟩
  · intro y0 y1 y2 y3
    unfold clocheref09_heights.l0
    repeat' first
    | (with_reducible exact ih0 _ _ _ _)
    | (with_reducible exact ih1 _ _ _ _ _)
    | (with_reducible exact ih2 _ _ _ _ _ _ _)
    | (with_reducible exact ih3 _ _ _ _ _ _ _ _)
    | (with_reducible exact clocheref09_zeros.mono _ _)
    | (with_reducible exact LeO.refl _)
    | (with_reducible exact LeO.none _)
    | (with_reducible refine LeO.ite ?_ ?_)
    | (with_reducible refine LeO.bind ?_ (fun _ => ?_))
    | exact ih0 _ _ _ _
    | exact ih1 _ _ _ _ _
    | exact ih2 _ _ _ _ _ _ _
    | exact ih3 _ _ _ _ _ _ _ _
    | exact clocheref09_zeros.mono _ _
    | exact LeO.none _
    | refine LeO.ite ?_ ?_
    | refine LeO.bind ?_ (fun _ => ?_)
  · intro y0 y1 y2 y3 y4
    unfold clocheref09_heights.l1
    repeat' first
    | (with_reducible exact ih0 _ _ _ _)
    | (with_reducible exact ih1 _ _ _ _ _)
    | (with_reducible exact ih2 _ _ _ _ _ _ _)
    | (with_reducible exact ih3 _ _ _ _ _ _ _ _)
    | (with_reducible exact clocheref09_zeros.mono _ _)
    | (with_reducible exact LeO.refl _)
    | (with_reducible exact LeO.none _)
    | (with_reducible refine LeO.ite ?_ ?_)
    | (with_reducible refine LeO.bind ?_ (fun _ => ?_))
    | exact ih0 _ _ _ _
    | exact ih1 _ _ _ _ _
    | exact ih2 _ _ _ _ _ _ _
    | exact ih3 _ _ _ _ _ _ _ _
    | exact clocheref09_zeros.mono _ _
    | exact LeO.none _
    | refine LeO.ite ?_ ?_
    | refine LeO.bind ?_ (fun _ => ?_)
  · intro y0 y1 y2 y3 y4 y5 y6
    unfold clocheref09_heights.l2
    repeat' first
    | (with_reducible exact ih0 _ _ _ _)
    | (with_reducible exact ih1 _ _ _ _ _)
    | (with_reducible exact ih2 _ _ _ _ _ _ _)
    | (with_reducible exact ih3 _ _ _ _ _ _ _ _)
    | (with_reducible exact clocheref09_zeros.mono _ _)
    | (with_reducible exact LeO.refl _)
    | (with_reducible exact LeO.none _)
    | (with_reducible refine LeO.ite ?_ ?_)
    | (with_reducible refine LeO.bind ?_ (fun _ => ?_))
    | exact ih0 _ _ _ _
    | exact ih1 _ _ _ _ _
    | exact ih2 _ _ _ _ _ _ _
    | exact ih3 _ _ _ _ _ _ _ _
    | exact clocheref09_zeros.mono _ _
    | exact LeO.none _
    | refine LeO.ite ?_ ?_
    | refine LeO.bind ?_ (fun _ => ?_)
  · intro y0 y1 y2 y3 y4 y5 y6 y7
    unfold clocheref09_heights.l3
    repeat' first
    | (with_reducible exact ih0 _ _ _ _)
    | (with_reducible exact ih1 _ _ _ _ _)
    | (with_reducible exact ih2 _ _ _ _ _ _ _)
    | (with_reducible exact ih3 _ _ _ _ _ _ _ _)
    | (with_reducible exact clocheref09_zeros.mono _ _)
    | (with_reducible exact LeO.refl _)
    | (with_reducible exact LeO.none _)
    | (with_reducible refine LeO.ite ?_ ?_)
    | (with_reducible refine LeO.bind ?_ (fun _ => ?_))
    | exact ih0 _ _ _ _
    | exact ih1 _ _ _ _ _
    | exact ih2 _ _ _ _ _ _ _
    | exact ih3 _ _ _ _ _ _ _ _
    | exact clocheref09_zeros.mono _ _
    | exact LeO.none _
    | refine LeO.ite ?_ ?_
    | refine LeO.bind ?_ (fun _ => ?_)
theorem clocheref09_heights.mono : ∀ a0 k, LeO (clocheref09_heights.f k a0) (clocheref09_heights.f (k + 1) a0) := by
 intro a0 k
 obtain ⟨ih0, ih1, ih2, ih3⟩ := clocheref09_heights.mono_l k
 unfold clocheref09_heights.f
 repeat' first
  | (with_reducible exact ih0 _ _ _ _)
  | (with_reducible exact ih1 _ _ _ _ _)
  | (with_reducible exact ih2 _ _ _ _ _ _ _)
  | (with_reducible exact ih3 _ _ _ _ _ _ _ _)
  | (with_reducible exact clocheref09_zeros.mono _ _)
  | (with_reducible exact LeO.refl _)
  | (with_reducible exact LeO.none _)
  | (with_reducible refine LeO.ite ?_ ?_)
  | (with_reducible refine LeO.bind ?_ (fun _ => ?_))
  | exact ih0 _ _ _ _
  | exact ih1 _ _ _ _ _
  | exact ih2 _ _ _ _ _ _ _
  | exact ih3 _ _ _ _ _ _ _ _
  | exact clocheref09_zeros.mono _ _
  | exact LeO.none _
  | refine LeO.ite ?_ ?_
  | refine LeO.bind ?_ (fun _ => ?_)
set_option maxHeartbeats 8000000 in
set_option maxRecDepth 100000 in
theorem clocheref09_heights.calls (k : Nat) (A0 : Option Addr) (c0 : Nat) (l0 : List (List Int)) (r : List (List Int)) (w : World) (hr0 : Kd.C (Kd.slice 3 (Kd.int .i64)) w A0 l0.length l0) (hc0 : l0.length ≤ c0) (h : clocheref09_heights.f k l0 = some r) :
 Calls Try.prog 57 #[.slice A0 l0.length c0] w fun e w' => ∃ v0_ : Value, e = .returned (v0_) ∧ Kd.S (Kd.slice 3 (Kd.int .i64)) 28 w' w.heap.size (fun _ => True) v0_ r ∧ Below w.heap.size w w' := by
 have HR0 := Aside0.mk hr0
 have HC0 := Aside0.mk hc0
 clear hr0 hc0
 have HB := Aside0.mk (Below.refl w.heap.size w)
 have H : ((clocheref09_zeros.f k (wrap64 ((l0.length : Int) + 1))).bind fun t314 => (clocheref09_heights.l0 k l0 (l0.length : Int) t314 0)) = some r := h
 clear h
 replace H := Option.bind_eq_some_iff.mp H
 obtain ⟨t314, A20, H⟩ := H
 replace H : (clocheref09_heights.l0 k l0 (l0.length : Int) t314 0) = some r := H
 have A2 := Aside0.mk A20
 clear A20
 have H' := Aside0.mk H
 clear H
 go_enter Try.func57, Try.ntmps57
 go_wp2_with (first | ((with_reducible refine gate_callee (f := 40) rfl ?_); refine goesL_ (some 14) rfl rfl Try.func40 (by kernel_rfl) rfl #[.int .i64 (wrap64 ((l0.length : Int) + 1))] rfl ar_ ?_; (with_reducible refine (clocheref09_zeros.calls k (wrap64 ((l0.length : Int) + 1)) t314 _ A2.out).mono ?_); rintro e w3 ⟨v315, rfl, ho0, hb⟩; refine ⟨_, rfl, ?_⟩; have n0_ := Aside0.mk (Kd.S_lower ho0 (below_size (bel_))); have n1_ := Aside0.mk (below_step (bel_) hb); clear HB; have HO316 := n0_; have HB := n1_; clear n0_ n1_; (try clear hb); (try clear hb2); (try clear hk); (try clear hi); (try clear ho0)))
 go_loopg [5] k (fun kq v5 w' => ∃ (x4_1 : List (List Int)) (x5_1 : Int), v5 = .int .i64 x5_1 ∧ Aside0 (clocheref09_heights.l0 kq l0 (l0.length : Int) x4_1 x5_1 = some r) ∧ Aside0 (kq ≤ k) ∧ Aside0 (Kd.S (Kd.slice 3 (Kd.int .i64)) 28 w' w.heap.size (fun _ => True) v315 x4_1) ∧ Aside0 (Below w.heap.size w w'))
 case atStart => exact ⟨(t314), (0), rf_, H', ⟨Nat.le_refl _⟩, ⟨nS_ HO316.out⟩, ⟨bel_⟩⟩
 case round =>
  clear H'
  try clear p2
  obtain ⟨x4_1, x5_1, rfl, HA, HK1, HO_4, HB⟩ := hrel
  cases gk with
  | zero => exact absurd HA.out (by simp [clocheref09_heights.l0])
  | succ k1 =>
    have H := HA.out
    clear HA
    simp only [clocheref09_heights.l0] at H
    by_cases c4 : x5_1 ≤ (l0.length : Int)
    · rw [if_pos c4] at H
      have c4b0 : decide (x5_1 ≤ (l0.length : Int)) = true := decide_eq_true c4
      clear c4
      have H' := Aside0.mk H
      clear H
      go_wp2
      go_loopg [6] k1 (fun kq v6 w' => ∃ (x4_2 : List (List Int)) (x6_2 : Int), v6 = .int .i64 x6_2 ∧ Aside0 (clocheref09_heights.l1 kq l0 (l0.length : Int) x4_2 x5_1 x6_2 = some r) ∧ Aside0 (kq ≤ k1) ∧ Aside0 (Kd.S (Kd.slice 3 (Kd.int .i64)) 28 w' w.heap.size (fun _ => True) v315 x4_2) ∧ Aside0 (Below w.heap.size w w'))
      case atStart => exact ⟨(x4_1), (0), rf_, H', ⟨Nat.le_refl _⟩, ⟨nS_ HO_4.out⟩, ⟨bel_⟩⟩
      case round =>
       clear H'
       try clear p2
       try clear c4
       try clear c4b0
       try clear p2
       obtain ⟨x4_2, x6_2, rfl, HA, HK2, HO_4, HB⟩ := hrel
       cases gk with
       | zero => exact absurd HA.out (by simp [clocheref09_heights.l1])
       | succ k2 =>
        have H := HA.out
        clear HA
        simp only [clocheref09_heights.l1] at H
        by_cases c5 : x6_2 ≤ (l0.length : Int)
        · rw [if_pos c5] at H
          have c5b0 : decide (x6_2 ≤ (l0.length : Int)) = true := decide_eq_true c5
          clear c5
          have H' := Aside0.mk H
          clear H
          go_wp2
          go_loopg [7, 8] k2 (fun kq v7 v8 w' => ∃ (x7_3 : Int) (x8_3 : Int), v7 = .int .i64 x7_3 ∧ v8 = .int .i64 x8_3 ∧ Aside0 (clocheref09_heights.l2 kq l0 (l0.length : Int) x4_2 x5_1 x6_2 x7_3 x8_3 = some r) ∧ Aside0 (kq ≤ k2) ∧ Aside0 (Kd.S (Kd.slice 3 (Kd.int .i64)) 28 w' w.heap.size (fun _ => True) v315 x4_2) ∧ Aside0 (Below w.heap.size w w'))
          case atStart => exact ⟨(0), (0), rf_, rf_, H', ⟨Nat.le_refl _⟩, ⟨nS_ HO_4.out⟩, ⟨bel_⟩⟩
          case round =>
           clear H'
           try clear p2
           try clear c4
           try clear c4b0
           try clear c5
           try clear c5b0
           try clear p2
           obtain ⟨x7_3, x8_3, rfl, rfl, HA, HK3, HO_4, HB⟩ := hrel
           cases gk with
           | zero => exact absurd HA.out (by simp [clocheref09_heights.l2])
           | succ k3 =>
            have H := HA.out
            clear HA
            simp only [clocheref09_heights.l2] at H
            by_cases c6 : x8_3 < x5_1
            · rw [if_pos c6] at H
              have c6b0 : decide (x8_3 < x5_1) = true := decide_eq_true c6
              clear c6
              have H' := Aside0.mk H
              clear H
              go_wp2
              go_loopg [7, 9] k3 (fun kq v7 v9 w' => ∃ (x7_4 : Int) (x9_4 : Int), v7 = .int .i64 x7_4 ∧ v9 = .int .i64 x9_4 ∧ Aside0 (clocheref09_heights.l3 kq l0 (l0.length : Int) x4_2 x5_1 x6_2 x7_4 x8_3 x9_4 = some r) ∧ Aside0 (kq ≤ k3) ∧ Aside0 (Kd.S (Kd.slice 3 (Kd.int .i64)) 28 w' w.heap.size (fun _ => True) v315 x4_2) ∧ Aside0 (Below w.heap.size w w'))
              case atStart => exact ⟨(x7_3), (0), rf_, rf_, H', ⟨Nat.le_refl _⟩, ⟨nS_ HO_4.out⟩, ⟨bel_⟩⟩
              case round =>
               clear H'
               try clear p2
               try clear c4
               try clear c4b0
               try clear c5
               try clear c5b0
               try clear c6
               try clear c6b0
               try clear p6
               try clear p2
               obtain ⟨x7_4, x9_4, rfl, rfl, HA, HK4, HO_4, HB⟩ := hrel
               cases gk with
               | zero => exact absurd HA.out (by simp [clocheref09_heights.l3])
               | succ k4 =>
                have H := HA.out
                clear HA
                simp only [clocheref09_heights.l3] at H
                by_cases c7 : x9_4 < x6_2
                · rw [if_pos c7] at H
                  have c7b0 : decide (x9_4 < x6_2) = true := decide_eq_true c7
                  clear c7
                  by_cases c8 : 0 ≤ x8_3
                  · rw [if_pos c8] at H
                    have c8b0 : decide (0 ≤ x8_3) = true := decide_eq_true c8
                    clear c8
                    by_cases c9 : x8_3 < (l0.length : Int)
                    · rw [if_pos c9] at H
                      have c9b0 : decide (x8_3 < (l0.length : Int)) = true := decide_eq_true c9
                      clear c9
                      by_cases c10 : 0 ≤ x9_4
                      · rw [if_pos c10] at H
                        have c10b0 : decide (0 ≤ x9_4) = true := decide_eq_true c10
                        clear c10
                        by_cases c11 : x9_4 < ((rd_L1 l0 x8_3).length : Int)
                        · rw [if_pos c11] at H
                          have c11b0 : decide (x9_4 < ((rd_L1 l0 x8_3).length : Int)) = true := decide_eq_true c11
                          clear c11
                          have H' := Aside0.mk H
                          clear H
                          obtain ⟨ad321, A321_0, c321_0, e321, hx321_0, HC321_0, HR321_0, p321, q321⟩ := al_ HR0.out x8_3
                          cases e321
                          replace hx321_0 := (HB.out.cell (World.block_lt_of_cell? w _ hx321_0)).trans hx321_0
                          obtain ⟨ad322, e322, hx322_0, p322, q322⟩ := ai_ HR321_0.out x9_4
                          cases e322
                          replace hx322_0 := (HB.out.cell (World.block_lt_of_cell? w _ hx322_0)).trans hx322_0
                          go_wp2
                          go_roundg k4
                          case measure => have := HK1.out; have := HK2.out; have := HK3.out; have := HK4.out; omega
                          case rel => exact ⟨(wrap64 (x7_4 + (rd (rd_L1 l0 x8_3) x9_4))), (wrap64 (x9_4 + 1)), rf_, rf_, H', ⟨by have := HK1.out; have := HK2.out; have := HK3.out; have := HK4.out; omega⟩, ⟨nS_ HO_4.out⟩, ⟨bel_⟩⟩
                        · rw [if_neg c11] at H
                          exact absurd H (by simp)
                      · rw [if_neg c10] at H
                        exact absurd H (by simp)
                    · rw [if_neg c9] at H
                      exact absurd H (by simp)
                  · rw [if_neg c8] at H
                    exact absurd H (by simp)
                · rw [if_neg c7] at H
                  have c7b0 : decide (x9_4 < x6_2) = false := decide_eq_false c7
                  clear c7
                  have H' := Aside0.mk H
                  clear H
                  go_wp2
                  go_roundg k4
                  case measure => have := HK1.out; have := HK2.out; have := HK3.out; have := HK4.out; omega
                  case rel => exact ⟨(x7_4), (wrap64 (x8_3 + 1)), rf_, rf_, H', ⟨by have := HK1.out; have := HK2.out; have := HK3.out; have := HK4.out; omega⟩, ⟨nS_ HO_4.out⟩, ⟨bel_⟩⟩
            · rw [if_neg c6] at H
              have c6b0 : decide (x8_3 < x5_1) = false := decide_eq_false c6
              clear c6
              by_cases c12 : 0 ≤ x5_1
              · rw [if_pos c12] at H
                have c12b0 : decide (0 ≤ x5_1) = true := decide_eq_true c12
                clear c12
                by_cases c13 : x5_1 < (x4_2.length : Int)
                · rw [if_pos c13] at H
                  have c13b0 : decide (x5_1 < (x4_2.length : Int)) = true := decide_eq_true c13
                  clear c13
                  by_cases c14 : 0 ≤ x6_2
                  · rw [if_pos c14] at H
                    have c14b0 : decide (0 ≤ x6_2) = true := decide_eq_true c14
                    clear c14
                    by_cases c15 : x6_2 < ((rd_L1 x4_2 x5_1).length : Int)
                    · rw [if_pos c15] at H
                      have c15b0 : decide (x6_2 < ((rd_L1 x4_2 x5_1).length : Int)) = true := decide_eq_true c15
                      clear c15
                      obtain ⟨y318, hy318⟩ : ∃ y_ : List Int, y_ = ((rd_L1 x4_2 x5_1).set (x6_2 : Int).toNat (wrap64 ((wrap64 (x5_1 + x6_2)) - (wrap64 (2 * x7_3))))) := ⟨_, rfl⟩
                      replace H : (clocheref09_heights.l1 k3 l0 (l0.length : Int) (x4_2.set (x5_1 : Int).toNat y318) x5_1 (wrap64 (x6_2 + 1))) = some r := by first | (rw [hy318]; with_reducible exact H) | (have H2_ := (Option.bind_some _ _).symm.trans H; rw [hy318]; with_reducible exact H2_) | (have H2_ := (Option.bind_some _ _).symm.trans H; with_reducible exact H2_) | with_reducible exact H | (rw [hy318]; exact H) | exact H
                      have Ny318 := Aside0.mk hy318
                      clear hy318
                      obtain ⟨y320, hy320⟩ : ∃ y_ : List (List Int), y_ = (x4_2.set (x5_1 : Int).toNat y318) := ⟨_, rfl⟩
                      replace H : (clocheref09_heights.l1 k3 l0 (l0.length : Int) y320 x5_1 (wrap64 (x6_2 + 1))) = some r := by first | (rw [hy320]; with_reducible exact H) | (have H2_ := (Option.bind_some _ _).symm.trans H; rw [hy320]; with_reducible exact H2_) | (have H2_ := (Option.bind_some _ _).symm.trans H; with_reducible exact H2_) | with_reducible exact H | (rw [hy320]; exact H) | exact H
                      have Ny320 := Aside0.mk hy320
                      clear hy320
                      have H' := Aside0.mk H
                      clear H
                      obtain ⟨Ao17, co17, eo17⟩ := Kd.S_slice HO_4.out
                      subst eo17
                      have p317 : 0 ≤ (x5_1 : Int) := od_
                      have q317 : x5_1 < (x4_2.length : Int) := od_
                      obtain ⟨ad317, A317_0, c317_0, e317, hx317_0, hl317_0, hi317_0⟩ := at_L1 (Kd.S_reads' HO_4.out).2.2 x5_1 p317 q317
                      cases e317
                      obtain ⟨ce317, hce317, hMe317, hcc317⟩ := Kd.S_get HO_4.out [] x5_1 p317 (by first | exact q317 | exact od_ | (have e_ := (Kd.S_reads' HO_4.out).1; omega))
                      obtain ⟨ve317_0, rfl, ge317_0⟩ := hMe317
                      have hv317_0 := hcc317 0 _ rfl
                      rw [Nat.add_zero, show ((Kd.slice 3 (Kd.int .i64))).sz = 1 from rfl, Nat.mul_one] at hv317_0
                      replace hv317_0 := Option.some.inj (hv317_0.symm.trans hx317_0)
                      rw [hv317_0] at ge317_0
                      have HL317_0 := Aside0.mk (show Kd.R (Kd.int .i64) 3 _ _ _ _ (rd_L1 x4_2 x5_1) from ge317_0)
                      clear hv317_0 ge317_0
                      have HX317_0 := Aside0.mk hx317_0
                      clear hcc317 hce317
                      have HR317_0 := Aside0.mk hi317_0
                      have HC317_0 := Aside0.mk hl317_0
                      clear hi317_0 hl317_0
                      replace p317 := eq_true p317
                      replace q317 := eq_true q317
                      have p16 : 0 ≤ (x6_2 : Int) := od_
                      have q16 : (x6_2 : Int) < (((rd_L1 x4_2 x5_1).length : Int) : Int) := od_
                      obtain ⟨go16, co16, eo16, gb16, gl16, cl16, HG16⟩ := Kd.R_form HL317_0.out (by omega)
                      (first | cases eo16 | (injection eo16 with ea_ en_ ec_; (first | subst ea_ | (injection ea_ with ea_; subst ea_)); subst ec_; clear en_))
                      have GB16 := Aside0.mk gb16
                      have GG16 := Aside0.mk HG16
                      clear gb16 gl16 HG16
                      obtain ⟨hx16_0, hf16_0⟩ := Kd.R_celln 0 HL317_0.out (x6_2 : Int) p16 q16
                      replace p16 := eq_true p16
                      replace q16 := eq_true q16
                      have hq18 : (x5_1 : Int) < (x4_2.length : Int) := (by have h_ : (x5_1 : Int) < ((x4_2.length : Int) : Int) := od_; first | exact h_ | (have e_ := (Kd.S_reads' HO_4.out).1; omega) | simpa only [List.length_set, List.length_set] using h_)
                      obtain ⟨oki18, ce18, hcl18, hM18, hcc18, hok18, hbk18⟩ := Kd.S_borrow HO_4.out [] (x5_1 : Int) (od_) hq18
                      obtain ⟨ve18_0, rfl, ge18_0⟩ := hM18
                      have hv18 := hcc18 0 _ rfl
                      rw [Nat.add_zero, show ((Kd.slice 3 (Kd.int .i64))).sz = 1 from rfl, Nat.mul_one] at hv18
                      replace hv18 := Option.some.inj (hv18.symm.trans HX317_0.out)
                      subst hv18
                      clear hcc18 hcl18
                      replace ge18_0 := (show Kd.R (Kd.int .i64) 3 _ _ _ _ (rd_L1 x4_2 x5_1) from ge18_0)
                      have HP18 := Kd.R_putg ge18_0 (x6_2 : Int) (wrap64 ((wrap64 (x5_1 + x6_2)) - (wrap64 (2 * x7_3))))
                      go_wp2_with (first | ((with_reducible refine gate_store (t := 3) (p := 55) rfl ?_); refine store_event (t := 3) (p := 55) (v := ?vo_w19) (w1 := (wr.setCell ⟨go16, (x6_2 : Int).toNat, none⟩ (.int .i64 (wrap64 ((wrap64 (x5_1 + x6_2)) - (wrap64 (2 * x7_3))))))) ?hg ?ho ?hn ?hr ?_; (case ho => rfl); (case hg => rfl); (case hn => rfl); (case hr => first | (go_simp; done) | (go_simp; rfl)); intro w19 hw; have hg : wr.grownBy w19 (some go16) := (by rw [hw]; exact HP18.2); have hz_ : Kd.R (Kd.int .i64) 3 w19 w.heap.size oki18 (.slice (some ⟨go16, 0, none⟩) (rd_L1 x4_2 x5_1).length c317_0) y318 := (by rw [hw, Ny318.out]; exact HP18.1); have hp_ : Kd.S (Kd.slice 3 (Kd.int .i64)) 28 w19 w.heap.size (fun _ => True) (.slice (some ad317) x4_2.length co17) y320 := (by rw [Ny320.out]; exact hbk18 hg (fun k_ e_ => by injection e_ with e_; subst e_; exact ge18_0.1 _ rfl) (Kd.M_row hz_)); have hm_ := Kd.R_mono hz_ hok18; clear HP18 hbk18; have n0_ := Aside0.mk (hp_); have n1_ := Aside0.mk ((by rw [hw]; exact below_set (HB.out) GB16.out : Below w.heap.size w w19)); have n2_ := Aside0.mk (hm_); have n3_ := Aside0.mk ((Kd.R_reads' hm_).2.1); clear HO_4; clear HB; clear HL317_0; have HO_4 := n0_; have HB := n1_; have HL323 := n2_; have HC319 := n3_; clear n0_ n1_ n2_ n3_; clear hg hw hp_ hz_ hm_ hok18))
                      go_roundg k3
                      case measure => have := HK1.out; have := HK2.out; have := HK3.out; omega
                      case rel => exact ⟨(y320), (wrap64 (x6_2 + 1)), rf_, H', ⟨by have := HK1.out; have := HK2.out; have := HK3.out; omega⟩, ⟨nS_ HO_4.out⟩, ⟨bel_⟩⟩
                    · rw [if_neg c15] at H
                      exact absurd H (by simp)
                  · rw [if_neg c14] at H
                    exact absurd H (by simp)
                · rw [if_neg c13] at H
                  exact absurd H (by simp)
              · rw [if_neg c12] at H
                exact absurd H (by simp)
        · rw [if_neg c5] at H
          have c5b0 : decide (x6_2 ≤ (l0.length : Int)) = false := decide_eq_false c5
          clear c5
          have H' := Aside0.mk H
          clear H
          go_wp2
          go_roundg k2
          case measure => have := HK1.out; have := HK2.out; omega
          case rel => exact ⟨(x4_2), (wrap64 (x5_1 + 1)), rf_, H', ⟨by have := HK1.out; have := HK2.out; omega⟩, ⟨nS_ HO_4.out⟩, ⟨bel_⟩⟩
    · rw [if_neg c4] at H
      have c4b0 : decide (x5_1 ≤ (l0.length : Int)) = false := decide_eq_false c4
      clear c4
      obtain rfl := Option.some.inj H
      go_wp2
      go_ret
      exact ⟨_, er_, by (with_reducible repeat (first | apply Kd.S_alloc | apply Kd.S_drewN | apply Kd.S_drew)); exact HO_4.out, bel_⟩

end Go.Proofs.Ytdinepghommchaa.V

-- Written by a program of this session over the kit's printer: wip/gp.py.
namespace Go.Proofs.Ytdinepghommchaa.V
open Go.RowKit Go.Proofs.YtdinepghommchaaW.PrintWords Go.Proofs.YtdinepghommchaaW.PrintLast Go.Proofs.YtdinepghommchaaW.PrintMore
attribute [local go_sem] max2_int min2_int max_two min_two max_three min_three max_four min_four   -- for this text's walks alone
set_option linter.unusedVariables false
set_option linter.unusedSimpArgs false

/-! ### clocheref09_down: function 80 -/
def clocheref09_down.f (l0 : List (List Int)) (a1 : Int) (a2 : Int) : Option (Bool) := if 0 ≤ a1 then (if a1 < (l0.length : Int) then (if 0 ≤ a2 then (if a2 < ((rd_L1 l0 a1).length : Int) then (if 0 ≤ (wrap64 (a2 - 1)) then (if (wrap64 (a2 - 1)) < ((rd_L1 l0 a1).length : Int) then (some (((wrap64 ((rd (rd_L1 l0 a1) a2) - (rd (rd_L1 l0 a1) (wrap64 (a2 - 1))))) == 1) == ((Int.tmod (wrap64 (a1 + a2)) 2) == 1))) else (none)) else (none)) else (none)) else (none)) else (none)) else (none)
set_option maxHeartbeats 8000000 in
set_option maxRecDepth 100000 in
theorem clocheref09_down.calls (A0 : Option Addr) (c0 : Nat) (l0 : List (List Int)) (a1 : Int) (a2 : Int) (r : Bool) (w : World) (hr0 : Kd.C (Kd.slice 3 (Kd.int .i64)) w A0 l0.length l0) (hc0 : l0.length ≤ c0) (h : clocheref09_down.f l0 a1 a2 = some r) :
 Calls Try.prog 80 #[.slice A0 l0.length c0, .int .i64 a1, .int .i64 a2] w fun e w' => e = .returned (.bool r) ∧ Drawn0 w w' := by
 have HR0 := Aside0.mk hr0
 have HC0 := Aside0.mk hc0
 clear hr0 hc0
 have H : (if 0 ≤ a1 then (if a1 < (l0.length : Int) then (if 0 ≤ a2 then (if a2 < ((rd_L1 l0 a1).length : Int) then (if 0 ≤ (wrap64 (a2 - 1)) then (if (wrap64 (a2 - 1)) < ((rd_L1 l0 a1).length : Int) then (some (((wrap64 ((rd (rd_L1 l0 a1) a2) - (rd (rd_L1 l0 a1) (wrap64 (a2 - 1))))) == 1) == ((Int.tmod (wrap64 (a1 + a2)) 2) == 1))) else (none)) else (none)) else (none)) else (none)) else (none)) else (none)) = some r := h
 clear h
 by_cases c4 : 0 ≤ a1
 · rw [if_pos c4] at H
   have c4b0 : decide (0 ≤ a1) = true := decide_eq_true c4
   clear c4
   by_cases c5 : a1 < (l0.length : Int)
   · rw [if_pos c5] at H
     have c5b0 : decide (a1 < (l0.length : Int)) = true := decide_eq_true c5
     clear c5
     by_cases c6 : 0 ≤ a2
     · rw [if_pos c6] at H
       have c6b0 : decide (0 ≤ a2) = true := decide_eq_true c6
       clear c6
       by_cases c7 : a2 < ((rd_L1 l0 a1).length : Int)
       · rw [if_pos c7] at H
         have c7b0 : decide (a2 < ((rd_L1 l0 a1).length : Int)) = true := decide_eq_true c7
         clear c7
         obtain ⟨ji8, hji8⟩ : ∃ j_ : Int, (wrap64 (a2 - 1)) = j_ := ⟨_, rfl⟩
         replace H : (if 0 ≤ (ji8) then (if (ji8) < ((rd_L1 l0 a1).length : Int) then (some (((wrap64 ((rd (rd_L1 l0 a1) a2) - (rd (rd_L1 l0 a1) (ji8)))) == 1) == ((Int.tmod (wrap64 (a1 + a2)) 2) == 1))) else (none)) else (none)) = some r := by first | (rw [hji8] at H; exact H) | (simp only [hji8] at H ⊢; exact H)
         have hji8w : (IntKind.i64.wrap (a2 - 1)) = ji8 := (i64_w _).trans hji8
         by_cases c9 : 0 ≤ (ji8)
         · rw [if_pos c9] at H
           have c9b0 : decide (0 ≤ (ji8)) = true := decide_eq_true c9
           clear c9
           by_cases c10 : (ji8) < ((rd_L1 l0 a1).length : Int)
           · rw [if_pos c10] at H
             have c10b0 : decide ((ji8) < ((rd_L1 l0 a1).length : Int)) = true := decide_eq_true c10
             clear c10
             obtain rfl := Option.some.inj H
             obtain ⟨ad324, A324_0, c324_0, e324, hx324_0, HC324_0, HR324_0, p324, q324⟩ := al_ HR0.out a1
             cases e324
             obtain ⟨ad325, e325, hx325_0, p325, q325⟩ := ai_ HR324_0.out a2
             cases e325
             obtain ⟨ad326, A326_0, c326_0, e326, hx326_0, HC326_0, HR326_0, p326, q326⟩ := al_ HR0.out a1
             obtain rfl : ad324 = ad326 := (by injection e326)
             have ea_ := Option.some.inj (hx324_0.symm.trans hx326_0)
             injection ea_ with ea_ en_ ec_
             subst ea_
             subst ec_
             clear en_
             obtain ⟨ad327, e327, hx327_0, p327, q327⟩ := ai_ HR326_0.out (ji8)
             cases e327
             go_enter Try.func80, Try.ntmps80
             go_wp2
             repeat (go_quiet (fail); try go_wp2)
             go_ret
             exact ⟨by first | rfl | (simp; done) | (simp only [← hji8] <;> (first | rfl | simp)) | (simp [*]; done), dr_⟩
           · rw [if_neg c10] at H
             exact absurd H (by simp)
         · rw [if_neg c9] at H
           exact absurd H (by simp)
       · rw [if_neg c7] at H
         exact absurd H (by simp)
     · rw [if_neg c6] at H
       exact absurd H (by simp)
   · rw [if_neg c5] at H
     exact absurd H (by simp)
 · rw [if_neg c4] at H
   exact absurd H (by simp)

end Go.Proofs.Ytdinepghommchaa.V

-- Written by a program of this session over the kit's printer: wip/gp.py.
namespace Go.Proofs.Ytdinepghommchaa.V
open Go.RowKit Go.Proofs.YtdinepghommchaaW.PrintWords Go.Proofs.YtdinepghommchaaW.PrintLast Go.Proofs.YtdinepghommchaaW.PrintMore
attribute [local go_sem] max2_int min2_int max_two min_two max_three min_three max_four min_four   -- for this text's walks alone
set_option linter.unusedVariables false
set_option linter.unusedSimpArgs false

/-! ### clocheref09_right: function 81 -/
def clocheref09_right.f (l0 : List (List Int)) (a1 : Int) (a2 : Int) : Option (Bool) := if 0 ≤ a1 then (if a1 < (l0.length : Int) then (if 0 ≤ a2 then (if a2 < ((rd_L1 l0 a1).length : Int) then (if 0 ≤ (wrap64 (a1 - 1)) then (if (wrap64 (a1 - 1)) < (l0.length : Int) then (if a2 < ((rd_L1 l0 (wrap64 (a1 - 1))).length : Int) then (some (((wrap64 ((rd (rd_L1 l0 a1) a2) - (rd (rd_L1 l0 (wrap64 (a1 - 1))) a2))) == 1) == ((Int.tmod (wrap64 (a1 + a2)) 2) == 0))) else (none)) else (none)) else (none)) else (none)) else (none)) else (none)) else (none)
set_option maxHeartbeats 8000000 in
set_option maxRecDepth 100000 in
theorem clocheref09_right.calls (A0 : Option Addr) (c0 : Nat) (l0 : List (List Int)) (a1 : Int) (a2 : Int) (r : Bool) (w : World) (hr0 : Kd.C (Kd.slice 3 (Kd.int .i64)) w A0 l0.length l0) (hc0 : l0.length ≤ c0) (h : clocheref09_right.f l0 a1 a2 = some r) :
 Calls Try.prog 81 #[.slice A0 l0.length c0, .int .i64 a1, .int .i64 a2] w fun e w' => e = .returned (.bool r) ∧ Drawn0 w w' := by
 have HR0 := Aside0.mk hr0
 have HC0 := Aside0.mk hc0
 clear hr0 hc0
 have H : (if 0 ≤ a1 then (if a1 < (l0.length : Int) then (if 0 ≤ a2 then (if a2 < ((rd_L1 l0 a1).length : Int) then (if 0 ≤ (wrap64 (a1 - 1)) then (if (wrap64 (a1 - 1)) < (l0.length : Int) then (if a2 < ((rd_L1 l0 (wrap64 (a1 - 1))).length : Int) then (some (((wrap64 ((rd (rd_L1 l0 a1) a2) - (rd (rd_L1 l0 (wrap64 (a1 - 1))) a2))) == 1) == ((Int.tmod (wrap64 (a1 + a2)) 2) == 0))) else (none)) else (none)) else (none)) else (none)) else (none)) else (none)) else (none)) = some r := h
 clear h
 by_cases c4 : 0 ≤ a1
 · rw [if_pos c4] at H
   have c4b0 : decide (0 ≤ a1) = true := decide_eq_true c4
   clear c4
   by_cases c5 : a1 < (l0.length : Int)
   · rw [if_pos c5] at H
     have c5b0 : decide (a1 < (l0.length : Int)) = true := decide_eq_true c5
     clear c5
     by_cases c6 : 0 ≤ a2
     · rw [if_pos c6] at H
       have c6b0 : decide (0 ≤ a2) = true := decide_eq_true c6
       clear c6
       by_cases c7 : a2 < ((rd_L1 l0 a1).length : Int)
       · rw [if_pos c7] at H
         have c7b0 : decide (a2 < ((rd_L1 l0 a1).length : Int)) = true := decide_eq_true c7
         clear c7
         obtain ⟨ji8, hji8⟩ : ∃ j_ : Int, (wrap64 (a1 - 1)) = j_ := ⟨_, rfl⟩
         replace H : (if 0 ≤ (ji8) then (if (ji8) < (l0.length : Int) then (if a2 < ((rd_L1 l0 (ji8)).length : Int) then (some (((wrap64 ((rd (rd_L1 l0 a1) a2) - (rd (rd_L1 l0 (ji8)) a2))) == 1) == ((Int.tmod (wrap64 (a1 + a2)) 2) == 0))) else (none)) else (none)) else (none)) = some r := by first | (rw [hji8] at H; exact H) | (simp only [hji8] at H ⊢; exact H)
         have hji8w : (IntKind.i64.wrap (a1 - 1)) = ji8 := (i64_w _).trans hji8
         by_cases c9 : 0 ≤ (ji8)
         · rw [if_pos c9] at H
           have c9b0 : decide (0 ≤ (ji8)) = true := decide_eq_true c9
           clear c9
           by_cases c10 : (ji8) < (l0.length : Int)
           · rw [if_pos c10] at H
             have c10b0 : decide ((ji8) < (l0.length : Int)) = true := decide_eq_true c10
             clear c10
             by_cases c11 : a2 < ((rd_L1 l0 (ji8)).length : Int)
             · rw [if_pos c11] at H
               have c11b0 : decide (a2 < ((rd_L1 l0 (ji8)).length : Int)) = true := decide_eq_true c11
               clear c11
               obtain rfl := Option.some.inj H
               obtain ⟨ad328, A328_0, c328_0, e328, hx328_0, HC328_0, HR328_0, p328, q328⟩ := al_ HR0.out a1
               cases e328
               obtain ⟨ad329, e329, hx329_0, p329, q329⟩ := ai_ HR328_0.out a2
               cases e329
               obtain ⟨ad330, A330_0, c330_0, e330, hx330_0, HC330_0, HR330_0, p330, q330⟩ := al_ HR0.out (ji8)
               obtain rfl : ad328 = ad330 := (by injection e330)
               obtain ⟨ad331, e331, hx331_0, p331, q331⟩ := ai_ HR330_0.out a2
               cases e331
               go_enter Try.func81, Try.ntmps81
               go_wp2
               repeat (go_quiet (fail); try go_wp2)
               go_ret
               exact ⟨by first | rfl | (simp; done) | (simp only [← hji8] <;> (first | rfl | simp)) | (simp [*]; done), dr_⟩
             · rw [if_neg c11] at H
               exact absurd H (by simp)
           · rw [if_neg c10] at H
             exact absurd H (by simp)
         · rw [if_neg c9] at H
           exact absurd H (by simp)
       · rw [if_neg c7] at H
         exact absurd H (by simp)
     · rw [if_neg c6] at H
       exact absurd H (by simp)
   · rw [if_neg c5] at H
     exact absurd H (by simp)
 · rw [if_neg c4] at H
   exact absurd H (by simp)

end Go.Proofs.Ytdinepghommchaa.V

-- Written by a program of this session over the kit's printer: wip/gp.py.
namespace Go.Proofs.Ytdinepghommchaa.V
open Go.RowKit Go.Proofs.YtdinepghommchaaW.PrintWords Go.Proofs.YtdinepghommchaaW.PrintLast Go.Proofs.YtdinepghommchaaW.PrintMore
attribute [local go_sem] max2_int min2_int max_two min_two max_three min_three max_four min_four   -- for this text's walks alone
set_option linter.unusedVariables false
set_option linter.unusedSimpArgs false

/-! ### clocheref09_Ends: function 71 -/
mutual
def clocheref09_Ends.l0 : Nat → List (List Int) → Int → List (S82) → Int → Option ((List (S82)))
 | 0, _, _, _, _ => none
 | k + 1, x0, x3, x4, x5 => if x5 ≤ x3 then ((clocheref09_down.f x0 0 x5).bind fun t332 => (if t332 = true then (if x4.length < 5864062014805 then (clocheref09_Ends.l0 k x0 x3 (x4 ++ [(⟨1, x5, 0⟩ : S82)]) (wrap64 (x5 + 1))) else (none)) else (clocheref09_Ends.l0 k x0 x3 x4 (wrap64 (x5 + 1))))) else (clocheref09_Ends.l1 k x0 x3 x4 1)
def clocheref09_Ends.l1 : Nat → List (List Int) → Int → List (S82) → Int → Option ((List (S82)))
 | 0, _, _, _, _ => none
 | k + 1, x0, x3, x4, x6 => if x6 ≤ x3 then ((clocheref09_right.f x0 x6 x3).bind fun t336 => (if t336 = true then (if x4.length < 5864062014805 then (clocheref09_Ends.l1 k x0 x3 (x4 ++ [(⟨x6, x3, 1⟩ : S82)]) (wrap64 (x6 + 1))) else (none)) else (clocheref09_Ends.l1 k x0 x3 x4 (wrap64 (x6 + 1))))) else (clocheref09_Ends.l2 k x0 x3 x4 x3)
def clocheref09_Ends.l2 : Nat → List (List Int) → Int → List (S82) → Int → Option ((List (S82)))
 | 0, _, _, _, _ => none
 | k + 1, x0, x3, x4, x7 => if x7 ≥ 1 then ((clocheref09_down.f x0 x3 x7).bind fun t340 => (if t340 = true then (if x4.length < 5864062014805 then (clocheref09_Ends.l2 k x0 x3 (x4 ++ [(⟨x3, x7, 2⟩ : S82)]) (wrap64 (x7 - 1))) else (none)) else (clocheref09_Ends.l2 k x0 x3 x4 (wrap64 (x7 - 1))))) else (clocheref09_Ends.l3 k x0 x4 x3)
def clocheref09_Ends.l3 : Nat → List (List Int) → List (S82) → Int → Option ((List (S82)))
 | 0, _, _, _ => none
 | k + 1, x0, x4, x8 => if x8 ≥ 1 then ((clocheref09_right.f x0 x8 0).bind fun t344 => (if t344 = true then (if x4.length < 5864062014805 then (clocheref09_Ends.l3 k x0 (x4 ++ [(⟨x8, 1, 3⟩ : S82)]) (wrap64 (x8 - 1))) else (none)) else (clocheref09_Ends.l3 k x0 x4 (wrap64 (x8 - 1))))) else (some x4)
end
def clocheref09_Ends.f (k : Nat) (l0 : List (List Int)) : Option ((List (S82))) := clocheref09_Ends.l0 k l0 (wrap64 ((l0.length : Int) - 1)) ([] : List (S82)) 1
theorem clocheref09_Ends.mono_l : ∀ k, (∀ y0 y1 y2 y3, LeO (clocheref09_Ends.l0 k y0 y1 y2 y3) (clocheref09_Ends.l0 (k + 1) y0 y1 y2 y3)) ∧ (∀ y0 y1 y2 y3, LeO (clocheref09_Ends.l1 k y0 y1 y2 y3) (clocheref09_Ends.l1 (k + 1) y0 y1 y2 y3)) ∧ (∀ y0 y1 y2 y3, LeO (clocheref09_Ends.l2 k y0 y1 y2 y3) (clocheref09_Ends.l2 (k + 1) y0 y1 y2 y3)) ∧ (∀ y0 y1 y2, LeO (clocheref09_Ends.l3 k y0 y1 y2) (clocheref09_Ends.l3 (k + 1) y0 y1 y2))
 | 0 => ⟨fun _ _ _ _ r h => by simp [clocheref09_Ends.l0] at h, fun _ _ _ _ r h => by simp [clocheref09_Ends.l1] at h, fun _ _ _ _ r h => by simp [clocheref09_Ends.l2] at h, fun _ _ _ r h => by simp [clocheref09_Ends.l3] at h⟩
 | k + 1 => by
  obtain ⟨ih0, ih1, ih2, ih3⟩ := clocheref09_Ends.mono_l k
  refine ⟨?_, ?_, ?_, ?_⟩
  · intro y0 y1 y2 y3
    unfold clocheref09_Ends.l0
    repeat' first
    | (with_reducible exact ih0 _ _ _ _)
    | (with_reducible exact ih1 _ _ _ _)
    | (with_reducible exact ih2 _ _ _ _)
    | (with_reducible exact ih3 _ _ _)
    | (with_reducible exact LeO.refl _)
    | (with_reducible exact LeO.none _)
    | (with_reducible refine LeO.ite ?_ ?_)
    | (with_reducible refine LeO.bind ?_ (fun _ => ?_))
    | exact ih0 _ _ _ _
    | exact ih1 _ _ _ _
    | exact ih2 _ _ _ _
    | exact ih3 _ _ _
    | exact LeO.none _
    | refine LeO.ite ?_ ?_
    | refine LeO.bind ?_ (fun _ => ?_)
  · intro y0 y1 y2 y3
    unfold clocheref09_Ends.l1
    repeat' first
    | (with_reducible exact ih0 _ _ _ _)
    | (with_reducible exact ih1 _ _ _ _)
    | (with_reducible exact ih2 _ _ _ _)
    | (with_reducible exact ih3 _ _ _)
    | (with_reducible exact LeO.refl _)
    | (with_reducible exact LeO.none _)
    | (with_reducible refine LeO.ite ?_ ?_)
    | (with_reducible refine LeO.bind ?_ (fun _ => ?_))
    | exact ih0 _ _ _ _
    | exact ih1 _ _ _ _
    | exact ih2 _ _ _ _
    | exact ih3 _ _ _
    | exact LeO.none _
    | refine LeO.ite ?_ ?_
    | refine LeO.bind ?_ (fun _ => ?_)
  · intro y0 y1 y2 y3
    unfold clocheref09_Ends.l2
    repeat' first
    | (with_reducible exact ih0 _ _ _ _)
    | (with_reducible exact ih1 _ _ _ _)
    | (with_reducible exact ih2 _ _ _ _)
    | (with_reducible exact ih3 _ _ _)
    | (with_reducible exact LeO.refl _)
    | (with_reducible exact LeO.none _)
    | (with_reducible refine LeO.ite ?_ ?_)
    | (with_reducible refine LeO.bind ?_ (fun _ => ?_))
    | exact ih0 _ _ _ _
    | exact ih1 _ _ _ _
    | exact ih2 _ _ _ _
    | exact ih3 _ _ _
    | exact LeO.none _
    | refine LeO.ite ?_ ?_
    | refine LeO.bind ?_ (fun _ => ?_)
  · intro y0 y1 y2
    unfold clocheref09_Ends.l3
    repeat' first
    | (with_reducible exact ih0 _ _ _ _)
    | (with_reducible exact ih1 _ _ _ _)
    | (with_reducible exact ih2 _ _ _ _)
    | (with_reducible exact ih3 _ _ _)
    | (with_reducible exact LeO.refl _)
    | (with_reducible exact LeO.none _)
    | (with_reducible refine LeO.ite ?_ ?_)
    | (with_reducible refine LeO.bind ?_ (fun _ => ?_))
    | exact ih0 _ _ _ _
    | exact ih1 _ _ _ _
    | exact ih2 _ _ _ _
    | exact ih3 _ _ _
    | exact LeO.none _
    | refine LeO.ite ?_ ?_
    | refine LeO.bind ?_ (fun _ => ?_)
theorem clocheref09_Ends.mono : ∀ a0 k, LeO (clocheref09_Ends.f k a0) (clocheref09_Ends.f (k + 1) a0) := by
 intro a0 k
 obtain ⟨ih0, ih1, ih2, ih3⟩ := clocheref09_Ends.mono_l k
 unfold clocheref09_Ends.f
 repeat' first
  | (with_reducible exact ih0 _ _ _ _)
  | (with_reducible exact ih1 _ _ _ _)
  | (with_reducible exact ih2 _ _ _ _)
  | (with_reducible exact ih3 _ _ _)
  | (with_reducible exact LeO.refl _)
  | (with_reducible exact LeO.none _)
  | (with_reducible refine LeO.ite ?_ ?_)
  | (with_reducible refine LeO.bind ?_ (fun _ => ?_))
  | exact ih0 _ _ _ _
  | exact ih1 _ _ _ _
  | exact ih2 _ _ _ _
  | exact ih3 _ _ _
  | exact LeO.none _
  | refine LeO.ite ?_ ?_
  | refine LeO.bind ?_ (fun _ => ?_)
set_option maxHeartbeats 8000000 in
set_option maxRecDepth 100000 in
theorem clocheref09_Ends.calls (k : Nat) (A0 : Option Addr) (c0 : Nat) (l0 : List (List Int)) (r : List (S82)) (w : World) (hr0 : Kd.C (Kd.slice 3 (Kd.int .i64)) w A0 l0.length l0) (hc0 : l0.length ≤ c0) (h : clocheref09_Ends.f k l0 = some r) :
 Calls Try.prog 71 #[.slice A0 l0.length c0] w fun e w' => ∃ v0_ : Value, e = .returned (v0_) ∧ Kd.R k82 82 w' w.heap.size (fun _ => True) v0_ r ∧ Below w.heap.size w w' := by
 have hu82 := Try.underlying82
 have HR0 := Aside0.mk hr0
 have HC0 := Aside0.mk hc0
 clear hr0 hc0
 have HB := Aside0.mk (Below.refl w.heap.size w)
 have H : (clocheref09_Ends.l0 k l0 (wrap64 ((l0.length : Int) - 1)) ([] : List (S82)) 1) = some r := h
 clear h
 have H' := Aside0.mk H
 clear H
 go_enter Try.func71, Try.ntmps71
 go_wp2
 go_loopg [4, 5] k (fun kq v4 v5 w' => ∃ (x4_1 : List (S82)) (x5_1 : Int), v5 = .int .i64 x5_1 ∧ Aside0 (clocheref09_Ends.l0 kq l0 (wrap64 ((l0.length : Int) - 1)) x4_1 x5_1 = some r) ∧ Aside0 (kq ≤ k) ∧ Aside0 (Kd.R k82 82 w' w.heap.size (fun _ => True) v4 x4_1) ∧ Aside0 (Below w.heap.size w w'))
 case atStart => exact ⟨(([] : List (S82))), (1), rf_, H', ⟨Nat.le_refl _⟩, ⟨by first | exact Kd.R_nil _ _ _ _ _ | exact Kd.N_nil _ _ _ _ _ | exact Kd.V_nil _ _ _ _ _ | exact Kd.Q_nil _ _ _ _ _ | exact Kd.S_nil _ _ _ _ _⟩, ⟨bel_⟩⟩
 case round =>
  clear H'
  obtain ⟨x4_1, x5_1, rfl, HA, HK1, HO_4, HB⟩ := hrel
  cases gk with
  | zero => exact absurd HA.out (by simp [clocheref09_Ends.l0])
  | succ k1 =>
    have H := HA.out
    clear HA
    simp only [clocheref09_Ends.l0] at H
    by_cases c2 : x5_1 ≤ (wrap64 ((l0.length : Int) - 1))
    · rw [if_pos c2] at H
      have c2b0 : decide (x5_1 ≤ (wrap64 ((l0.length : Int) - 1))) = true := decide_eq_true c2
      clear c2
      replace H := Option.bind_eq_some_iff.mp H
      obtain ⟨t332, A30, H⟩ := H
      replace H : (if t332 = true then (if x4_1.length < 5864062014805 then (clocheref09_Ends.l0 k1 l0 (wrap64 ((l0.length : Int) - 1)) (x4_1 ++ [(⟨1, x5_1, 0⟩ : S82)]) (wrap64 (x5_1 + 1))) else (none)) else (clocheref09_Ends.l0 k1 l0 (wrap64 ((l0.length : Int) - 1)) x4_1 (wrap64 (x5_1 + 1)))) = some r := H
      have A3 := Aside0.mk A30
      clear A30
      by_cases c4 : t332 = true
      · subst c4
        have H1 : (if x4_1.length < 5864062014805 then (clocheref09_Ends.l0 k1 l0 (wrap64 ((l0.length : Int) - 1)) (x4_1 ++ [(⟨1, x5_1, 0⟩ : S82)]) (wrap64 (x5_1 + 1))) else (none)) = some r := by rw [if_pos rfl] at H; exact H
        clear H
        have H := H1
        clear H1
        by_cases c5 : x4_1.length < 5864062014805
        · rw [if_pos c5] at H
          have LMc5 := Aside0.mk c5
          clear c5
          obtain ⟨y333, hy333⟩ : ∃ y_ : List (S82), y_ = (x4_1 ++ [(⟨1, x5_1, 0⟩ : S82)]) := ⟨_, rfl⟩
          replace H : (clocheref09_Ends.l0 k1 l0 (wrap64 ((l0.length : Int) - 1)) y333 (wrap64 (x5_1 + 1))) = some r := by first | (rw [hy333]; with_reducible exact H) | (have H2_ := (Option.bind_some _ _).symm.trans H; rw [hy333]; with_reducible exact H2_) | (have H2_ := (Option.bind_some _ _).symm.trans H; with_reducible exact H2_) | with_reducible exact H | (rw [hy333]; exact H) | exact H
          have Ny333 := Aside0.mk hy333
          clear hy333
          have H' := Aside0.mk H
          clear H
          go_wp2_with (first | ((with_reducible refine gate_callee (f := 80) rfl ?_); refine goesL_ (some 19) rfl rfl Try.func80 (by kernel_rfl) rfl #[.slice A0 l0.length c0, .int .i64 0, .int .i64 x5_1] rfl ar_ ?_; (with_reducible refine (clocheref09_down.calls _ _ l0 0 x5_1 true _ ?side1 ?side2 A3.out).mono ?_); (case side1 => repeat (first | exact (Kd.C_below HR0.out HB.out) | (with_reducible refine Kd.C_alloc ?_ _) | (with_reducible refine Kd.C_drewN ?_ _) | (with_reducible refine Kd.C_drew ?_))); (case side2 => exact HC0.out); rintro e w' ⟨rfl, ⟨nd, rfl⟩⟩; refine ⟨_, rfl, ?_⟩) | ((with_reducible refine gate_builtin (b := .append) (xs := #[.tmp 20, .tmp 23]) rfl ?_); at_builtin; refine Kd.R_append k82 (w0 := w) w.heap.size rfl (.tmp 20) (.tmp 23) 77 82 (.agg #[(.int .i64 0), (.int .i64 0), (.int .i64 0)]) 24 rfl Try.underlying77 info82 rfl (by decide) (by omega) u4 x4_1 (⟨1, x5_1, 0⟩ : S82) [.int .i64 1, .int .i64 x5_1, .int .i64 0] (fun _ => True) (fun _ => False) rfl rfl ?aP (fun _ hk => hk.elim) ?aF ?aO ?aB ?aS ?aL ?_; (case aP => exact k82_mkM _ _ _ (⟨1, x5_1, 0⟩ : S82)); (case aB => exact (bel_)); (case aF => exact (fun _ _ => trivial)); (case aO => exact (nR_ HO_4.out)); (case aS => exact (below_size (bel_))); (case aL => have := LMc5.out; omega); intro v334 w6 ho hb hg hat; rw [← Ny333.out] at ho; have n0_ := Aside0.mk (hb); have n1_ := Aside0.mk (ho); clear HB; clear HO_4; have HB := n0_; have HO335 := n1_; clear n0_ n1_; clear ho hb hg hat))
          go_roundg k1
          case measure => have := HK1.out; omega
          case rel => exact ⟨(y333), (wrap64 (x5_1 + 1)), rf_, H', ⟨by have := HK1.out; omega⟩, ⟨nR_ HO335.out⟩, ⟨bel_⟩⟩
        · rw [if_neg c5] at H
          exact absurd H (by simp)
      · replace c4 := Bool.eq_false_iff.mpr c4
        subst c4
        have H1 : (clocheref09_Ends.l0 k1 l0 (wrap64 ((l0.length : Int) - 1)) x4_1 (wrap64 (x5_1 + 1))) = some r := by rw [if_neg (show ¬ (false = true) by decide)] at H; exact H
        clear H
        have H := H1
        clear H1
        have H' := Aside0.mk H
        clear H
        go_wp2_with (first | ((with_reducible refine gate_callee (f := 80) rfl ?_); refine goesL_ (some 19) rfl rfl Try.func80 (by kernel_rfl) rfl #[.slice A0 l0.length c0, .int .i64 0, .int .i64 x5_1] rfl ar_ ?_; (with_reducible refine (clocheref09_down.calls _ _ l0 0 x5_1 false _ ?side1 ?side2 A3.out).mono ?_); (case side1 => repeat (first | exact (Kd.C_below HR0.out HB.out) | (with_reducible refine Kd.C_alloc ?_ _) | (with_reducible refine Kd.C_drewN ?_ _) | (with_reducible refine Kd.C_drew ?_))); (case side2 => exact HC0.out); rintro e w' ⟨rfl, ⟨nd, rfl⟩⟩; refine ⟨_, rfl, ?_⟩))
        go_roundg k1
        case measure => have := HK1.out; omega
        case rel => exact ⟨(x4_1), (wrap64 (x5_1 + 1)), rf_, H', ⟨by have := HK1.out; omega⟩, ⟨nR_ HO_4.out⟩, ⟨bel_⟩⟩
    · rw [if_neg c2] at H
      have c2b0 : decide (x5_1 ≤ (wrap64 ((l0.length : Int) - 1))) = false := decide_eq_false c2
      clear c2
      have H' := Aside0.mk H
      clear H
      go_wp2
      go_loopg [4, 6] k1 (fun kq v4 v6 w' => ∃ (x4_2 : List (S82)) (x6_2 : Int), v6 = .int .i64 x6_2 ∧ Aside0 (clocheref09_Ends.l1 kq l0 (wrap64 ((l0.length : Int) - 1)) x4_2 x6_2 = some r) ∧ Aside0 (kq ≤ k1) ∧ Aside0 (Kd.R k82 82 w' w.heap.size (fun _ => True) v4 x4_2) ∧ Aside0 (Below w.heap.size w w'))
      case atStart => exact ⟨(x4_1), (1), rf_, H', ⟨Nat.le_refl _⟩, ⟨nR_ HO_4.out⟩, ⟨bel_⟩⟩
      case round =>
       clear H'
       try clear c2
       try clear c2b0
       try clear p2
       try clear c4
       try clear c5
       try clear p6
       obtain ⟨x4_2, x6_2, rfl, HA, HK2, HO_4, HB⟩ := hrel
       cases gk with
       | zero => exact absurd HA.out (by simp [clocheref09_Ends.l1])
       | succ k2 =>
        have H := HA.out
        clear HA
        simp only [clocheref09_Ends.l1] at H
        by_cases c7 : x6_2 ≤ (wrap64 ((l0.length : Int) - 1))
        · rw [if_pos c7] at H
          have c7b0 : decide (x6_2 ≤ (wrap64 ((l0.length : Int) - 1))) = true := decide_eq_true c7
          clear c7
          replace H := Option.bind_eq_some_iff.mp H
          obtain ⟨t336, A80, H⟩ := H
          replace H : (if t336 = true then (if x4_2.length < 5864062014805 then (clocheref09_Ends.l1 k2 l0 (wrap64 ((l0.length : Int) - 1)) (x4_2 ++ [(⟨x6_2, (wrap64 ((l0.length : Int) - 1)), 1⟩ : S82)]) (wrap64 (x6_2 + 1))) else (none)) else (clocheref09_Ends.l1 k2 l0 (wrap64 ((l0.length : Int) - 1)) x4_2 (wrap64 (x6_2 + 1)))) = some r := H
          have A8 := Aside0.mk A80
          clear A80
          by_cases c9 : t336 = true
          · subst c9
            have H1 : (if x4_2.length < 5864062014805 then (clocheref09_Ends.l1 k2 l0 (wrap64 ((l0.length : Int) - 1)) (x4_2 ++ [(⟨x6_2, (wrap64 ((l0.length : Int) - 1)), 1⟩ : S82)]) (wrap64 (x6_2 + 1))) else (none)) = some r := by rw [if_pos rfl] at H; exact H
            clear H
            have H := H1
            clear H1
            by_cases c10 : x4_2.length < 5864062014805
            · rw [if_pos c10] at H
              have LMc10 := Aside0.mk c10
              clear c10
              obtain ⟨y337, hy337⟩ : ∃ y_ : List (S82), y_ = (x4_2 ++ [(⟨x6_2, (wrap64 ((l0.length : Int) - 1)), 1⟩ : S82)]) := ⟨_, rfl⟩
              replace H : (clocheref09_Ends.l1 k2 l0 (wrap64 ((l0.length : Int) - 1)) y337 (wrap64 (x6_2 + 1))) = some r := by first | (rw [hy337]; with_reducible exact H) | (have H2_ := (Option.bind_some _ _).symm.trans H; rw [hy337]; with_reducible exact H2_) | (have H2_ := (Option.bind_some _ _).symm.trans H; with_reducible exact H2_) | with_reducible exact H | (rw [hy337]; exact H) | exact H
              have Ny337 := Aside0.mk hy337
              clear hy337
              have H' := Aside0.mk H
              clear H
              go_wp2_with (first | ((with_reducible refine gate_callee (f := 81) rfl ?_); refine goesL_ (some 33) rfl rfl Try.func81 (by kernel_rfl) rfl #[.slice A0 l0.length c0, .int .i64 x6_2, .int .i64 (wrap64 ((l0.length : Int) - 1))] rfl ar_ ?_; (with_reducible refine (clocheref09_right.calls _ _ l0 x6_2 (wrap64 ((l0.length : Int) - 1)) true _ ?side1 ?side2 A8.out).mono ?_); (case side1 => repeat (first | exact (Kd.C_below HR0.out HB.out) | (with_reducible refine Kd.C_alloc ?_ _) | (with_reducible refine Kd.C_drewN ?_ _) | (with_reducible refine Kd.C_drew ?_))); (case side2 => exact HC0.out); rintro e w' ⟨rfl, ⟨nd, rfl⟩⟩; refine ⟨_, rfl, ?_⟩) | ((with_reducible refine gate_builtin (b := .append) (xs := #[.tmp 34, .tmp 38]) rfl ?_); at_builtin; refine Kd.R_append k82 (w0 := w) w.heap.size rfl (.tmp 34) (.tmp 38) 77 82 (.agg #[(.int .i64 0), (.int .i64 0), (.int .i64 0)]) 24 rfl Try.underlying77 info82 rfl (by decide) (by omega) u4 x4_2 (⟨x6_2, (wrap64 ((l0.length : Int) - 1)), 1⟩ : S82) [.int .i64 x6_2, .int .i64 (wrap64 ((l0.length : Int) - 1)), .int .i64 1] (fun _ => True) (fun _ => False) rfl rfl ?aP (fun _ hk => hk.elim) ?aF ?aO ?aB ?aS ?aL ?_; (case aP => exact k82_mkM _ _ _ (⟨x6_2, (wrap64 ((l0.length : Int) - 1)), 1⟩ : S82)); (case aB => exact (bel_)); (case aF => exact (fun _ _ => trivial)); (case aO => exact (nR_ HO_4.out)); (case aS => exact (below_size (bel_))); (case aL => have := LMc10.out; omega); intro v338 w11 ho hb hg hat; rw [← Ny337.out] at ho; have n0_ := Aside0.mk (hb); have n1_ := Aside0.mk (ho); clear HB; clear HO_4; have HB := n0_; have HO339 := n1_; clear n0_ n1_; clear ho hb hg hat))
              go_roundg k2
              case measure => have := HK1.out; have := HK2.out; omega
              case rel => exact ⟨(y337), (wrap64 (x6_2 + 1)), rf_, H', ⟨by have := HK1.out; have := HK2.out; omega⟩, ⟨nR_ HO339.out⟩, ⟨bel_⟩⟩
            · rw [if_neg c10] at H
              exact absurd H (by simp)
          · replace c9 := Bool.eq_false_iff.mpr c9
            subst c9
            have H1 : (clocheref09_Ends.l1 k2 l0 (wrap64 ((l0.length : Int) - 1)) x4_2 (wrap64 (x6_2 + 1))) = some r := by rw [if_neg (show ¬ (false = true) by decide)] at H; exact H
            clear H
            have H := H1
            clear H1
            have H' := Aside0.mk H
            clear H
            go_wp2_with (first | ((with_reducible refine gate_callee (f := 81) rfl ?_); refine goesL_ (some 33) rfl rfl Try.func81 (by kernel_rfl) rfl #[.slice A0 l0.length c0, .int .i64 x6_2, .int .i64 (wrap64 ((l0.length : Int) - 1))] rfl ar_ ?_; (with_reducible refine (clocheref09_right.calls _ _ l0 x6_2 (wrap64 ((l0.length : Int) - 1)) false _ ?side1 ?side2 A8.out).mono ?_); (case side1 => repeat (first | exact (Kd.C_below HR0.out HB.out) | (with_reducible refine Kd.C_alloc ?_ _) | (with_reducible refine Kd.C_drewN ?_ _) | (with_reducible refine Kd.C_drew ?_))); (case side2 => exact HC0.out); rintro e w' ⟨rfl, ⟨nd, rfl⟩⟩; refine ⟨_, rfl, ?_⟩))
            go_roundg k2
            case measure => have := HK1.out; have := HK2.out; omega
            case rel => exact ⟨(x4_2), (wrap64 (x6_2 + 1)), rf_, H', ⟨by have := HK1.out; have := HK2.out; omega⟩, ⟨nR_ HO_4.out⟩, ⟨bel_⟩⟩
        · rw [if_neg c7] at H
          have c7b0 : decide (x6_2 ≤ (wrap64 ((l0.length : Int) - 1))) = false := decide_eq_false c7
          clear c7
          have H' := Aside0.mk H
          clear H
          go_wp2
          go_loopg [4, 7] k2 (fun kq v4 v7 w' => ∃ (x4_3 : List (S82)) (x7_3 : Int), v7 = .int .i64 x7_3 ∧ Aside0 (clocheref09_Ends.l2 kq l0 (wrap64 ((l0.length : Int) - 1)) x4_3 x7_3 = some r) ∧ Aside0 (kq ≤ k2) ∧ Aside0 (Kd.R k82 82 w' w.heap.size (fun _ => True) v4 x4_3) ∧ Aside0 (Below w.heap.size w w'))
          case atStart => exact ⟨(x4_2), ((wrap64 ((l0.length : Int) - 1))), rf_, H', ⟨Nat.le_refl _⟩, ⟨nR_ HO_4.out⟩, ⟨bel_⟩⟩
          case round =>
           clear H'
           try clear c1
           try clear c2
           try clear c2b0
           try clear p2
           try clear c4
           try clear c5
           try clear p6
           try clear c7
           try clear c7b0
           try clear c8
           try clear c9
           try clear c10
           try clear p2
           try clear p6
           obtain ⟨x4_3, x7_3, rfl, HA, HK3, HO_4, HB⟩ := hrel
           cases gk with
           | zero => exact absurd HA.out (by simp [clocheref09_Ends.l2])
           | succ k3 =>
            have H := HA.out
            clear HA
            simp only [clocheref09_Ends.l2] at H
            by_cases c12 : x7_3 ≥ 1
            · rw [if_pos c12] at H
              have c12b0 : decide (1 ≤ x7_3) = true := decide_eq_true c12
              clear c12
              replace H := Option.bind_eq_some_iff.mp H
              obtain ⟨t340, A130, H⟩ := H
              replace H : (if t340 = true then (if x4_3.length < 5864062014805 then (clocheref09_Ends.l2 k3 l0 (wrap64 ((l0.length : Int) - 1)) (x4_3 ++ [(⟨(wrap64 ((l0.length : Int) - 1)), x7_3, 2⟩ : S82)]) (wrap64 (x7_3 - 1))) else (none)) else (clocheref09_Ends.l2 k3 l0 (wrap64 ((l0.length : Int) - 1)) x4_3 (wrap64 (x7_3 - 1)))) = some r := H
              have A13 := Aside0.mk A130
              clear A130
              by_cases c14 : t340 = true
              · subst c14
                have H1 : (if x4_3.length < 5864062014805 then (clocheref09_Ends.l2 k3 l0 (wrap64 ((l0.length : Int) - 1)) (x4_3 ++ [(⟨(wrap64 ((l0.length : Int) - 1)), x7_3, 2⟩ : S82)]) (wrap64 (x7_3 - 1))) else (none)) = some r := by rw [if_pos rfl] at H; exact H
                clear H
                have H := H1
                clear H1
                by_cases c15 : x4_3.length < 5864062014805
                · rw [if_pos c15] at H
                  have LMc15 := Aside0.mk c15
                  clear c15
                  obtain ⟨y341, hy341⟩ : ∃ y_ : List (S82), y_ = (x4_3 ++ [(⟨(wrap64 ((l0.length : Int) - 1)), x7_3, 2⟩ : S82)]) := ⟨_, rfl⟩
                  replace H : (clocheref09_Ends.l2 k3 l0 (wrap64 ((l0.length : Int) - 1)) y341 (wrap64 (x7_3 - 1))) = some r := by first | (rw [hy341]; with_reducible exact H) | (have H2_ := (Option.bind_some _ _).symm.trans H; rw [hy341]; with_reducible exact H2_) | (have H2_ := (Option.bind_some _ _).symm.trans H; with_reducible exact H2_) | with_reducible exact H | (rw [hy341]; exact H) | exact H
                  have Ny341 := Aside0.mk hy341
                  clear hy341
                  have H' := Aside0.mk H
                  clear H
                  go_wp2_with (first | ((with_reducible refine gate_callee (f := 80) rfl ?_); refine goesL_ (some 48) rfl rfl Try.func80 (by kernel_rfl) rfl #[.slice A0 l0.length c0, .int .i64 (wrap64 ((l0.length : Int) - 1)), .int .i64 x7_3] rfl ar_ ?_; (with_reducible refine (clocheref09_down.calls _ _ l0 (wrap64 ((l0.length : Int) - 1)) x7_3 true _ ?side1 ?side2 A13.out).mono ?_); (case side1 => repeat (first | exact (Kd.C_below HR0.out HB.out) | (with_reducible refine Kd.C_alloc ?_ _) | (with_reducible refine Kd.C_drewN ?_ _) | (with_reducible refine Kd.C_drew ?_))); (case side2 => exact HC0.out); rintro e w' ⟨rfl, ⟨nd, rfl⟩⟩; refine ⟨_, rfl, ?_⟩) | ((with_reducible refine gate_builtin (b := .append) (xs := #[.tmp 49, .tmp 53]) rfl ?_); at_builtin; refine Kd.R_append k82 (w0 := w) w.heap.size rfl (.tmp 49) (.tmp 53) 77 82 (.agg #[(.int .i64 0), (.int .i64 0), (.int .i64 0)]) 24 rfl Try.underlying77 info82 rfl (by decide) (by omega) u4 x4_3 (⟨(wrap64 ((l0.length : Int) - 1)), x7_3, 2⟩ : S82) [.int .i64 (wrap64 ((l0.length : Int) - 1)), .int .i64 x7_3, .int .i64 2] (fun _ => True) (fun _ => False) rfl rfl ?aP (fun _ hk => hk.elim) ?aF ?aO ?aB ?aS ?aL ?_; (case aP => exact k82_mkM _ _ _ (⟨(wrap64 ((l0.length : Int) - 1)), x7_3, 2⟩ : S82)); (case aB => exact (bel_)); (case aF => exact (fun _ _ => trivial)); (case aO => exact (nR_ HO_4.out)); (case aS => exact (below_size (bel_))); (case aL => have := LMc15.out; omega); intro v342 w16 ho hb hg hat; rw [← Ny341.out] at ho; have n0_ := Aside0.mk (hb); have n1_ := Aside0.mk (ho); clear HB; clear HO_4; have HB := n0_; have HO343 := n1_; clear n0_ n1_; clear ho hb hg hat))
                  go_roundg k3
                  case measure => have := HK1.out; have := HK2.out; have := HK3.out; omega
                  case rel => exact ⟨(y341), (wrap64 (x7_3 - 1)), rf_, H', ⟨by have := HK1.out; have := HK2.out; have := HK3.out; omega⟩, ⟨nR_ HO343.out⟩, ⟨bel_⟩⟩
                · rw [if_neg c15] at H
                  exact absurd H (by simp)
              · replace c14 := Bool.eq_false_iff.mpr c14
                subst c14
                have H1 : (clocheref09_Ends.l2 k3 l0 (wrap64 ((l0.length : Int) - 1)) x4_3 (wrap64 (x7_3 - 1))) = some r := by rw [if_neg (show ¬ (false = true) by decide)] at H; exact H
                clear H
                have H := H1
                clear H1
                have H' := Aside0.mk H
                clear H
                go_wp2_with (first | ((with_reducible refine gate_callee (f := 80) rfl ?_); refine goesL_ (some 48) rfl rfl Try.func80 (by kernel_rfl) rfl #[.slice A0 l0.length c0, .int .i64 (wrap64 ((l0.length : Int) - 1)), .int .i64 x7_3] rfl ar_ ?_; (with_reducible refine (clocheref09_down.calls _ _ l0 (wrap64 ((l0.length : Int) - 1)) x7_3 false _ ?side1 ?side2 A13.out).mono ?_); (case side1 => repeat (first | exact (Kd.C_below HR0.out HB.out) | (with_reducible refine Kd.C_alloc ?_ _) | (with_reducible refine Kd.C_drewN ?_ _) | (with_reducible refine Kd.C_drew ?_))); (case side2 => exact HC0.out); rintro e w' ⟨rfl, ⟨nd, rfl⟩⟩; refine ⟨_, rfl, ?_⟩))
                go_roundg k3
                case measure => have := HK1.out; have := HK2.out; have := HK3.out; omega
                case rel => exact ⟨(x4_3), (wrap64 (x7_3 - 1)), rf_, H', ⟨by have := HK1.out; have := HK2.out; have := HK3.out; omega⟩, ⟨nR_ HO_4.out⟩, ⟨bel_⟩⟩
            · rw [if_neg c12] at H
              have c12b0 : decide (1 ≤ x7_3) = false := decide_eq_false c12
              clear c12
              have H' := Aside0.mk H
              clear H
              go_wp2
              go_loopg [4, 8] k3 (fun kq v4 v8 w' => ∃ (x4_4 : List (S82)) (x8_4 : Int), v8 = .int .i64 x8_4 ∧ Aside0 (clocheref09_Ends.l3 kq l0 x4_4 x8_4 = some r) ∧ Aside0 (kq ≤ k3) ∧ Aside0 (Kd.R k82 82 w' w.heap.size (fun _ => True) v4 x4_4) ∧ Aside0 (Below w.heap.size w w'))
              case atStart => exact ⟨(x4_3), ((wrap64 ((l0.length : Int) - 1))), rf_, H', ⟨Nat.le_refl _⟩, ⟨nR_ HO_4.out⟩, ⟨bel_⟩⟩
              case round =>
               clear H'
               try clear c1
               try clear c2
               try clear c2b0
               try clear p2
               try clear c4
               try clear c5
               try clear p6
               try clear c7
               try clear c7b0
               try clear c8
               try clear c9
               try clear c10
               try clear c12
               try clear c12b0
               try clear c14
               try clear c15
               try clear p2
               try clear p6
               obtain ⟨x4_4, x8_4, rfl, HA, HK4, HO_4, HB⟩ := hrel
               cases gk with
               | zero => exact absurd HA.out (by simp [clocheref09_Ends.l3])
               | succ k4 =>
                have H := HA.out
                clear HA
                simp only [clocheref09_Ends.l3] at H
                by_cases c17 : x8_4 ≥ 1
                · rw [if_pos c17] at H
                  have c17b0 : decide (1 ≤ x8_4) = true := decide_eq_true c17
                  clear c17
                  replace H := Option.bind_eq_some_iff.mp H
                  obtain ⟨t344, A180, H⟩ := H
                  replace H : (if t344 = true then (if x4_4.length < 5864062014805 then (clocheref09_Ends.l3 k4 l0 (x4_4 ++ [(⟨x8_4, 1, 3⟩ : S82)]) (wrap64 (x8_4 - 1))) else (none)) else (clocheref09_Ends.l3 k4 l0 x4_4 (wrap64 (x8_4 - 1)))) = some r := H
                  have A18 := Aside0.mk A180
                  clear A180
                  by_cases c19 : t344 = true
                  · subst c19
                    have H1 : (if x4_4.length < 5864062014805 then (clocheref09_Ends.l3 k4 l0 (x4_4 ++ [(⟨x8_4, 1, 3⟩ : S82)]) (wrap64 (x8_4 - 1))) else (none)) = some r := by rw [if_pos rfl] at H; exact H
                    clear H
                    have H := H1
                    clear H1
                    by_cases c20 : x4_4.length < 5864062014805
                    · rw [if_pos c20] at H
                      have LMc20 := Aside0.mk c20
                      clear c20
                      obtain ⟨y345, hy345⟩ : ∃ y_ : List (S82), y_ = (x4_4 ++ [(⟨x8_4, 1, 3⟩ : S82)]) := ⟨_, rfl⟩
                      replace H : (clocheref09_Ends.l3 k4 l0 y345 (wrap64 (x8_4 - 1))) = some r := by first | (rw [hy345]; with_reducible exact H) | (have H2_ := (Option.bind_some _ _).symm.trans H; rw [hy345]; with_reducible exact H2_) | (have H2_ := (Option.bind_some _ _).symm.trans H; with_reducible exact H2_) | with_reducible exact H | (rw [hy345]; exact H) | exact H
                      have Ny345 := Aside0.mk hy345
                      clear hy345
                      have H' := Aside0.mk H
                      clear H
                      go_wp2_with (first | ((with_reducible refine gate_callee (f := 81) rfl ?_); refine goesL_ (some 62) rfl rfl Try.func81 (by kernel_rfl) rfl #[.slice A0 l0.length c0, .int .i64 x8_4, .int .i64 0] rfl ar_ ?_; (with_reducible refine (clocheref09_right.calls _ _ l0 x8_4 0 true _ ?side1 ?side2 A18.out).mono ?_); (case side1 => repeat (first | exact (Kd.C_below HR0.out HB.out) | (with_reducible refine Kd.C_alloc ?_ _) | (with_reducible refine Kd.C_drewN ?_ _) | (with_reducible refine Kd.C_drew ?_))); (case side2 => exact HC0.out); rintro e w' ⟨rfl, ⟨nd, rfl⟩⟩; refine ⟨_, rfl, ?_⟩) | ((with_reducible refine gate_builtin (b := .append) (xs := #[.tmp 63, .tmp 66]) rfl ?_); at_builtin; refine Kd.R_append k82 (w0 := w) w.heap.size rfl (.tmp 63) (.tmp 66) 77 82 (.agg #[(.int .i64 0), (.int .i64 0), (.int .i64 0)]) 24 rfl Try.underlying77 info82 rfl (by decide) (by omega) u4 x4_4 (⟨x8_4, 1, 3⟩ : S82) [.int .i64 x8_4, .int .i64 1, .int .i64 3] (fun _ => True) (fun _ => False) rfl rfl ?aP (fun _ hk => hk.elim) ?aF ?aO ?aB ?aS ?aL ?_; (case aP => exact k82_mkM _ _ _ (⟨x8_4, 1, 3⟩ : S82)); (case aB => exact (bel_)); (case aF => exact (fun _ _ => trivial)); (case aO => exact (nR_ HO_4.out)); (case aS => exact (below_size (bel_))); (case aL => have := LMc20.out; omega); intro v346 w21 ho hb hg hat; rw [← Ny345.out] at ho; have n0_ := Aside0.mk (hb); have n1_ := Aside0.mk (ho); clear HB; clear HO_4; have HB := n0_; have HO347 := n1_; clear n0_ n1_; clear ho hb hg hat))
                      go_roundg k4
                      case measure => have := HK1.out; have := HK2.out; have := HK3.out; have := HK4.out; omega
                      case rel => exact ⟨(y345), (wrap64 (x8_4 - 1)), rf_, H', ⟨by have := HK1.out; have := HK2.out; have := HK3.out; have := HK4.out; omega⟩, ⟨nR_ HO347.out⟩, ⟨bel_⟩⟩
                    · rw [if_neg c20] at H
                      exact absurd H (by simp)
                  · replace c19 := Bool.eq_false_iff.mpr c19
                    subst c19
                    have H1 : (clocheref09_Ends.l3 k4 l0 x4_4 (wrap64 (x8_4 - 1))) = some r := by rw [if_neg (show ¬ (false = true) by decide)] at H; exact H
                    clear H
                    have H := H1
                    clear H1
                    have H' := Aside0.mk H
                    clear H
                    go_wp2_with (first | ((with_reducible refine gate_callee (f := 81) rfl ?_); refine goesL_ (some 62) rfl rfl Try.func81 (by kernel_rfl) rfl #[.slice A0 l0.length c0, .int .i64 x8_4, .int .i64 0] rfl ar_ ?_; (with_reducible refine (clocheref09_right.calls _ _ l0 x8_4 0 false _ ?side1 ?side2 A18.out).mono ?_); (case side1 => repeat (first | exact (Kd.C_below HR0.out HB.out) | (with_reducible refine Kd.C_alloc ?_ _) | (with_reducible refine Kd.C_drewN ?_ _) | (with_reducible refine Kd.C_drew ?_))); (case side2 => exact HC0.out); rintro e w' ⟨rfl, ⟨nd, rfl⟩⟩; refine ⟨_, rfl, ?_⟩))
                    go_roundg k4
                    case measure => have := HK1.out; have := HK2.out; have := HK3.out; have := HK4.out; omega
                    case rel => exact ⟨(x4_4), (wrap64 (x8_4 - 1)), rf_, H', ⟨by have := HK1.out; have := HK2.out; have := HK3.out; have := HK4.out; omega⟩, ⟨nR_ HO_4.out⟩, ⟨bel_⟩⟩
                · rw [if_neg c17] at H
                  have c17b0 : decide (1 ≤ x8_4) = false := decide_eq_false c17
                  clear c17
                  obtain rfl := Option.some.inj H
                  go_wp2
                  go_ret
                  exact ⟨_, er_, by (with_reducible repeat (first | apply Kd.R_alloc | apply Kd.R_drewN | apply Kd.R_drew)); exact HO_4.out, bel_⟩

end Go.Proofs.Ytdinepghommchaa.V

-- Written by a program of this session over the kit's printer: wip/gp.py.
namespace Go.Proofs.Ytdinepghommchaa.V
open Go.RowKit Go.Proofs.YtdinepghommchaaW.PrintWords Go.Proofs.YtdinepghommchaaW.PrintLast Go.Proofs.YtdinepghommchaaW.PrintMore
attribute [local go_sem] max2_int min2_int max_two min_two max_three min_three max_four min_four   -- for this text's walks alone
set_option linter.unusedVariables false
set_option linter.unusedSimpArgs false

/-! ### clocheref09_leads: function 82 -/
def clocheref09_leads.f (l0 : List (List Int)) (a1 : Int) (a2 : Int) (a3 : Int) : Option (Bool) := if a3 = 0 then ((clocheref09_down.f l0 a1 a2).bind fun t348 => (some t348)) else (if a3 = 1 then ((clocheref09_right.f l0 a1 (wrap64 (a2 - 1))).bind fun t349 => (some t349)) else (if a3 = 2 then ((clocheref09_down.f l0 (wrap64 (a1 - 1)) a2).bind fun t350 => (some t350)) else ((clocheref09_right.f l0 a1 a2).bind fun t351 => (some t351))))
set_option maxHeartbeats 8000000 in
set_option maxRecDepth 100000 in
theorem clocheref09_leads.calls (A0 : Option Addr) (c0 : Nat) (l0 : List (List Int)) (a1 : Int) (a2 : Int) (a3 : Int) (r : Bool) (w : World) (hr0 : Kd.C (Kd.slice 3 (Kd.int .i64)) w A0 l0.length l0) (hc0 : l0.length ≤ c0) (h : clocheref09_leads.f l0 a1 a2 a3 = some r) :
 Calls Try.prog 82 #[.slice A0 l0.length c0, .int .i64 a1, .int .i64 a2, .int .i64 a3] w fun e w' => e = .returned (.bool r) ∧ Drawn0 w w' := by
 have HR0 := Aside0.mk hr0
 have HC0 := Aside0.mk hc0
 clear hr0 hc0
 have H : (if a3 = 0 then ((clocheref09_down.f l0 a1 a2).bind fun t348 => (some t348)) else (if a3 = 1 then ((clocheref09_right.f l0 a1 (wrap64 (a2 - 1))).bind fun t349 => (some t349)) else (if a3 = 2 then ((clocheref09_down.f l0 (wrap64 (a1 - 1)) a2).bind fun t350 => (some t350)) else ((clocheref09_right.f l0 a1 a2).bind fun t351 => (some t351))))) = some r := h
 clear h
 by_cases c5 : a3 = 0
 · rw [if_pos c5] at H
   have c5b0 : (a3 == 0) = true := beq_iff_eq.mpr c5
   have c5b1 : (a3 != 0) = false := bne_eq_false_iff_eq.mpr c5
   clear c5
   replace H := Option.bind_eq_some_iff.mp H
   obtain ⟨t348, A60, H⟩ := H
   replace H : (some t348) = some r := H
   have A6 := Aside0.mk A60
   clear A60
   obtain rfl := Option.some.inj H
   go_enter Try.func82, Try.ntmps82
   go_wp2_with (first | ((with_reducible refine gate_callee (f := 80) rfl ?_); refine goesL_ (some 15) rfl rfl Try.func80 (by kernel_rfl) rfl #[.slice A0 l0.length c0, .int .i64 a1, .int .i64 a2] rfl ar_ ?_; (with_reducible refine (clocheref09_down.calls _ _ l0 a1 a2 t348 _ ?side1 ?side2 A6.out).mono ?_); (case side1 => repeat (first | exact HR0.out | (with_reducible refine Kd.C_alloc ?_ _) | (with_reducible refine Kd.C_drewN ?_ _) | (with_reducible refine Kd.C_drew ?_))); (case side2 => exact HC0.out); rintro e w' ⟨rfl, ⟨nd, rfl⟩⟩; refine ⟨_, rfl, ?_⟩))
   go_ret
   exact ⟨rf_, dr_⟩
 · rw [if_neg c5] at H
   have c5b0 : (a3 == 0) = false := beq_eq_false_iff_ne.mpr c5
   have c5b1 : (a3 != 0) = true := bne_iff_ne.mpr c5
   by_cases c7 : a3 = 1
   · rw [if_pos c7] at H
     have c7b0 : (a3 == 1) = true := beq_iff_eq.mpr c7
     have c7b1 : (a3 != 1) = false := bne_eq_false_iff_eq.mpr c7
     clear c7
     replace H := Option.bind_eq_some_iff.mp H
     obtain ⟨t349, A80, H⟩ := H
     replace H : (some t349) = some r := H
     have A8 := Aside0.mk A80
     clear A80
     obtain rfl := Option.some.inj H
     go_enter Try.func82, Try.ntmps82
     go_wp2_with (first | ((with_reducible refine gate_callee (f := 81) rfl ?_); refine goesL_ (some 22) rfl rfl Try.func81 (by kernel_rfl) rfl #[.slice A0 l0.length c0, .int .i64 a1, .int .i64 (wrap64 (a2 - 1))] rfl ar_ ?_; (with_reducible refine (clocheref09_right.calls _ _ l0 a1 (wrap64 (a2 - 1)) t349 _ ?side1 ?side2 A8.out).mono ?_); (case side1 => repeat (first | exact HR0.out | (with_reducible refine Kd.C_alloc ?_ _) | (with_reducible refine Kd.C_drewN ?_ _) | (with_reducible refine Kd.C_drew ?_))); (case side2 => exact HC0.out); rintro e w' ⟨rfl, ⟨nd, rfl⟩⟩; refine ⟨_, rfl, ?_⟩))
     go_ret
     exact ⟨rf_, dr_⟩
   · rw [if_neg c7] at H
     have c7b0 : (a3 == 1) = false := beq_eq_false_iff_ne.mpr c7
     have c7b1 : (a3 != 1) = true := bne_iff_ne.mpr c7
     by_cases c9 : a3 = 2
     · rw [if_pos c9] at H
       have c9b0 : (a3 == 2) = true := beq_iff_eq.mpr c9
       have c9b1 : (a3 != 2) = false := bne_eq_false_iff_eq.mpr c9
       clear c9
       replace H := Option.bind_eq_some_iff.mp H
       obtain ⟨t350, A100, H⟩ := H
       replace H : (some t350) = some r := H
       have A10 := Aside0.mk A100
       clear A100
       obtain rfl := Option.some.inj H
       go_enter Try.func82, Try.ntmps82
       go_wp2_with (first | ((with_reducible refine gate_callee (f := 80) rfl ?_); refine goesL_ (some 29) rfl rfl Try.func80 (by kernel_rfl) rfl #[.slice A0 l0.length c0, .int .i64 (wrap64 (a1 - 1)), .int .i64 a2] rfl ar_ ?_; (with_reducible refine (clocheref09_down.calls _ _ l0 (wrap64 (a1 - 1)) a2 t350 _ ?side1 ?side2 A10.out).mono ?_); (case side1 => repeat (first | exact HR0.out | (with_reducible refine Kd.C_alloc ?_ _) | (with_reducible refine Kd.C_drewN ?_ _) | (with_reducible refine Kd.C_drew ?_))); (case side2 => exact HC0.out); rintro e w' ⟨rfl, ⟨nd, rfl⟩⟩; refine ⟨_, rfl, ?_⟩))
       go_ret
       exact ⟨rf_, dr_⟩
     · rw [if_neg c9] at H
       have c9b0 : (a3 == 2) = false := beq_eq_false_iff_ne.mpr c9
       have c9b1 : (a3 != 2) = true := bne_iff_ne.mpr c9
       replace H := Option.bind_eq_some_iff.mp H
       obtain ⟨t351, A110, H⟩ := H
       replace H : (some t351) = some r := H
       have A11 := Aside0.mk A110
       clear A110
       obtain rfl := Option.some.inj H
       go_enter Try.func82, Try.ntmps82
       go_wp2_with (first | ((with_reducible refine gate_callee (f := 81) rfl ?_); refine goesL_ (some 33) rfl rfl Try.func81 (by kernel_rfl) rfl #[.slice A0 l0.length c0, .int .i64 a1, .int .i64 a2] rfl ar_ ?_; (with_reducible refine (clocheref09_right.calls _ _ l0 a1 a2 t351 _ ?side1 ?side2 A11.out).mono ?_); (case side1 => repeat (first | exact HR0.out | (with_reducible refine Kd.C_alloc ?_ _) | (with_reducible refine Kd.C_drewN ?_ _) | (with_reducible refine Kd.C_drew ?_))); (case side2 => exact HC0.out); rintro e w' ⟨rfl, ⟨nd, rfl⟩⟩; refine ⟨_, rfl, ?_⟩))
       go_ret
       exact ⟨rf_, dr_⟩

end Go.Proofs.Ytdinepghommchaa.V

-- Written by a program of this session over the kit's printer: wip/gp.py.
namespace Go.Proofs.Ytdinepghommchaa.V
open Go.RowKit Go.Proofs.YtdinepghommchaaW.PrintWords Go.Proofs.YtdinepghommchaaW.PrintLast Go.Proofs.YtdinepghommchaaW.PrintMore
attribute [local go_sem] max2_int min2_int max_two min_two max_three min_three max_four min_four   -- for this text's walks alone
set_option linter.unusedVariables false
set_option linter.unusedSimpArgs false

/-! ### clocheref09_follow: function 72 -/
mutual
def clocheref09_follow.l0 : Nat → List (List Int) → Int → Int → Int → Int → Option (Int × Int × Int)
 | 0, _, _, _, _, _ => none
 | k + 1, x0, x7, x8, x9, x10 => clocheref09_follow.l1 k x0 x7 x8 x9 x10 (-1) 0
def clocheref09_follow.l1 : Nat → List (List Int) → Int → Int → Int → Int → Int → Int → Option (Int × Int × Int)
 | 0, _, _, _, _, _, _, _ => none
 | k + 1, x0, x7, x8, x9, x10, x11, x12 => if x12 < 4 then (if x12 = (Int.tmod (wrap64 (x9 + 2)) 4) then (clocheref09_follow.l1 k x0 x7 x8 x9 x10 x11 (wrap64 (x12 + 1))) else ((clocheref09_leads.f x0 x7 x8 x12).bind fun t353 => (if t353 = true then (clocheref09_follow.l1 k x0 x7 x8 x9 x10 x12 (wrap64 (x12 + 1))) else (clocheref09_follow.l1 k x0 x7 x8 x9 x10 x11 (wrap64 (x12 + 1)))))) else (if x11 = 0 then (if (wrap64 (x7 + 1)) < 1 then (some (x7, x8, x11)) else (if (wrap64 (x7 + 1)) > x10 then (some (x7, x8, x11)) else (if x8 < 1 then (some (x7, x8, x11)) else (if x8 > x10 then (some (x7, x8, x11)) else (clocheref09_follow.l0 k x0 (wrap64 (x7 + 1)) x8 x11 x10))))) else (if x11 = 1 then (if x7 < 1 then (some (x7, x8, x11)) else (if x7 > x10 then (some (x7, x8, x11)) else (if (wrap64 (x8 - 1)) < 1 then (some (x7, x8, x11)) else (if (wrap64 (x8 - 1)) > x10 then (some (x7, x8, x11)) else (clocheref09_follow.l0 k x0 x7 (wrap64 (x8 - 1)) x11 x10))))) else (if x11 = 2 then (if (wrap64 (x7 - 1)) < 1 then (some (x7, x8, x11)) else (if (wrap64 (x7 - 1)) > x10 then (some (x7, x8, x11)) else (if x8 < 1 then (some (x7, x8, x11)) else (if x8 > x10 then (some (x7, x8, x11)) else (clocheref09_follow.l0 k x0 (wrap64 (x7 - 1)) x8 x11 x10))))) else (if x7 < 1 then (some (x7, x8, x11)) else (if x7 > x10 then (some (x7, x8, x11)) else (if (wrap64 (x8 + 1)) < 1 then (some (x7, x8, x11)) else (if (wrap64 (x8 + 1)) > x10 then (some (x7, x8, x11)) else (clocheref09_follow.l0 k x0 x7 (wrap64 (x8 + 1)) x11 x10))))))))
end
def clocheref09_follow.f (k : Nat) (l0 : List (List Int)) (a1_0 : Int) (a1_1 : Int) (a1_2 : Int) : Option (Int × Int × Int) := clocheref09_follow.l0 k l0 a1_0 a1_1 a1_2 (wrap64 ((l0.length : Int) - 1))
theorem clocheref09_follow.mono_l : ∀ k, (∀ y0 y1 y2 y3 y4, LeO (clocheref09_follow.l0 k y0 y1 y2 y3 y4) (clocheref09_follow.l0 (k + 1) y0 y1 y2 y3 y4)) ∧ (∀ y0 y1 y2 y3 y4 y5 y6, LeO (clocheref09_follow.l1 k y0 y1 y2 y3 y4 y5 y6) (clocheref09_follow.l1 (k + 1) y0 y1 y2 y3 y4 y5 y6))
 | 0 => ⟨fun _ _ _ _ _ r h => by simp [clocheref09_follow.l0] at h, fun _ _ _ _ _ _ _ r h => by simp [clocheref09_follow.l1] at h⟩
 | k + 1 => by
  obtain ⟨ih0, ih1⟩ := clocheref09_follow.mono_l k
  refine ⟨?_, ?_⟩
  · intro y0 y1 y2 y3 y4
    unfold clocheref09_follow.l0
    repeat' first
    | (with_reducible exact ih0 _ _ _ _ _)
    | (with_reducible exact ih1 _ _ _ _ _ _ _)
    | (with_reducible exact LeO.refl _)
    | (with_reducible exact LeO.none _)
    | (with_reducible refine LeO.ite ?_ ?_)
    | (with_reducible refine LeO.bind ?_ (fun _ => ?_))
    | exact ih0 _ _ _ _ _
    | exact ih1 _ _ _ _ _ _ _
    | exact LeO.none _
    | refine LeO.ite ?_ ?_
    | refine LeO.bind ?_ (fun _ => ?_)
  · intro y0 y1 y2 y3 y4 y5 y6
    unfold clocheref09_follow.l1
    repeat' first
    | (with_reducible exact ih0 _ _ _ _ _)
    | (with_reducible exact ih1 _ _ _ _ _ _ _)
    | (with_reducible exact LeO.refl _)
    | (with_reducible exact LeO.none _)
    | (with_reducible refine LeO.ite ?_ ?_)
    | (with_reducible refine LeO.bind ?_ (fun _ => ?_))
    | exact ih0 _ _ _ _ _
    | exact ih1 _ _ _ _ _ _ _
    | exact LeO.none _
    | refine LeO.ite ?_ ?_
    | refine LeO.bind ?_ (fun _ => ?_)
theorem clocheref09_follow.mono : ∀ a0 a1 a2 a3 k, LeO (clocheref09_follow.f k a0 a1 a2 a3) (clocheref09_follow.f (k + 1) a0 a1 a2 a3) := by
 intro a0 a1 a2 a3 k
 obtain ⟨ih0, ih1⟩ := clocheref09_follow.mono_l k
 unfold clocheref09_follow.f
 repeat' first
  | (with_reducible exact ih0 _ _ _ _ _)
  | (with_reducible exact ih1 _ _ _ _ _ _ _)
  | (with_reducible exact LeO.refl _)
  | (with_reducible exact LeO.none _)
  | (with_reducible refine LeO.ite ?_ ?_)
  | (with_reducible refine LeO.bind ?_ (fun _ => ?_))
  | exact ih0 _ _ _ _ _
  | exact ih1 _ _ _ _ _ _ _
  | exact LeO.none _
  | refine LeO.ite ?_ ?_
  | refine LeO.bind ?_ (fun _ => ?_)
set_option maxHeartbeats 8000000 in
set_option maxRecDepth 100000 in
theorem clocheref09_follow.calls (k : Nat) (A0 : Option Addr) (c0 : Nat) (l0 : List (List Int)) (a1_0 : Int) (a1_1 : Int) (a1_2 : Int) (r1 : Int) (r2 : Int) (r3 : Int) (w : World) (hr0 : Kd.C (Kd.slice 3 (Kd.int .i64)) w A0 l0.length l0) (hc0 : l0.length ≤ c0) (h : clocheref09_follow.f k l0 a1_0 a1_1 a1_2 = some (r1, r2, r3)) :
 Calls Try.prog 72 #[.slice A0 l0.length c0, .agg #[.int .i64 a1_0, .int .i64 a1_1, .int .i64 a1_2]] w fun e w' => e = .returned (.tuple #[.int .i64 r1, .int .i64 r2, .int .i64 r3]) ∧ Below w.heap.size w w' := by
 have hu82 := Try.underlying82
 have HR0 := Aside0.mk hr0
 have HC0 := Aside0.mk hc0
 clear hr0 hc0
 have HB := Aside0.mk (Below.refl w.heap.size w)
 have H : (clocheref09_follow.l0 k l0 a1_0 a1_1 a1_2 (wrap64 ((l0.length : Int) - 1))) = some (r1, r2, r3) := h
 clear h
 have H' := Aside0.mk H
 clear H
 go_enter Try.func72, Try.ntmps72
 go_wp2_with (first | ((with_reducible refine gate_dst (N := 3) rfl ?_); refine box_event ?hg (N := 3) ?hd (cs := #[.int .i64 a1_0, .int .i64 a1_1, .int .i64 a1_2]) (t := 82) ?hr ?_; (case hd => rfl); (case hg => rfl); (case hr => first | (go_simp; done) | (go_simp; rfl)); intro gb352 hg w3 hbox hb; have n0_ := Aside0.mk (below_step (bel_) hb); have n1_ := Aside0.mk (hbox); have n2_ := Aside0.mk ((by rw [hg]; exact (below_size (bel_)) : w.heap.size ≤ gb352)); have n3_ := Aside0.mk ((by rw [hg]; exact (below_size (bel_)) : w.heap.size ≤ gb352)); clear HB; have HB := n0_; have BK352 := n1_; have GW352 := n2_; have GE352 := n3_; clear n0_ n1_ n2_ n3_; clear hb hbox hg; have hcz4_0 : w3.cell? ⟨gb352, 0, none⟩ = some (.int .i64 a1_0) := (blk_cell BK352.out 0).trans rfl; have hcz4_1 : w3.cell? ⟨gb352, 1, none⟩ = some (.int .i64 a1_1) := (blk_cell BK352.out 1).trans rfl; have hcz4_2 : w3.cell? ⟨gb352, 2, none⟩ = some (.int .i64 a1_2) := (blk_cell BK352.out 2).trans rfl; have hfz4_0 := blk_frozen BK352.out 0; have hfz4_1 := blk_frozen BK352.out 1; have hfz4_2 := blk_frozen BK352.out 2))
 repeat (go_quiet (first | ((with_reducible refine gate_dst (N := 3) rfl ?_); refine box_event ?hg (N := 3) ?hd (cs := #[.int .i64 a1_0, .int .i64 a1_1, .int .i64 a1_2]) (t := 82) ?hr ?_; (case hd => rfl); (case hg => rfl); (case hr => first | (go_simp; done) | (go_simp; rfl)); intro gb352 hg w3 hbox hb; have n0_ := Aside0.mk (below_step (bel_) hb); have n1_ := Aside0.mk (hbox); have n2_ := Aside0.mk ((by rw [hg]; exact (below_size (bel_)) : w.heap.size ≤ gb352)); have n3_ := Aside0.mk ((by rw [hg]; exact (below_size (bel_)) : w.heap.size ≤ gb352)); clear HB; have HB := n0_; have BK352 := n1_; have GW352 := n2_; have GE352 := n3_; clear n0_ n1_ n2_ n3_; clear hb hbox hg; have hcz4_0 : w3.cell? ⟨gb352, 0, none⟩ = some (.int .i64 a1_0) := (blk_cell BK352.out 0).trans rfl; have hcz4_1 : w3.cell? ⟨gb352, 1, none⟩ = some (.int .i64 a1_1) := (blk_cell BK352.out 1).trans rfl; have hcz4_2 : w3.cell? ⟨gb352, 2, none⟩ = some (.int .i64 a1_2) := (blk_cell BK352.out 2).trans rfl; have hfz4_0 := blk_frozen BK352.out 0; have hfz4_1 := blk_frozen BK352.out 1; have hfz4_2 := blk_frozen BK352.out 2)); try go_wp2_with (first | ((with_reducible refine gate_dst (N := 3) rfl ?_); refine box_event ?hg (N := 3) ?hd (cs := #[.int .i64 a1_0, .int .i64 a1_1, .int .i64 a1_2]) (t := 82) ?hr ?_; (case hd => rfl); (case hg => rfl); (case hr => first | (go_simp; done) | (go_simp; rfl)); intro gb352 hg w3 hbox hb; have n0_ := Aside0.mk (below_step (bel_) hb); have n1_ := Aside0.mk (hbox); have n2_ := Aside0.mk ((by rw [hg]; exact (below_size (bel_)) : w.heap.size ≤ gb352)); have n3_ := Aside0.mk ((by rw [hg]; exact (below_size (bel_)) : w.heap.size ≤ gb352)); clear HB; have HB := n0_; have BK352 := n1_; have GW352 := n2_; have GE352 := n3_; clear n0_ n1_ n2_ n3_; clear hb hbox hg; have hcz4_0 : w3.cell? ⟨gb352, 0, none⟩ = some (.int .i64 a1_0) := (blk_cell BK352.out 0).trans rfl; have hcz4_1 : w3.cell? ⟨gb352, 1, none⟩ = some (.int .i64 a1_1) := (blk_cell BK352.out 1).trans rfl; have hcz4_2 : w3.cell? ⟨gb352, 2, none⟩ = some (.int .i64 a1_2) := (blk_cell BK352.out 2).trans rfl; have hfz4_0 := blk_frozen BK352.out 0; have hfz4_1 := blk_frozen BK352.out 1; have hfz4_2 := blk_frozen BK352.out 2)))
 go_loopg [7, 8, 9] k (fun kq v7 v8 v9 w' => ∃ (x7_1 : Int) (x8_1 : Int) (x9_1 : Int), v7 = .int .i64 x7_1 ∧ v8 = .int .i64 x8_1 ∧ v9 = .int .i64 x9_1 ∧ Aside0 (clocheref09_follow.l0 kq l0 x7_1 x8_1 x9_1 (wrap64 ((l0.length : Int) - 1)) = some (r1, r2, r3)) ∧ Aside0 (kq ≤ k) ∧ Aside0 (w'.heap[gb352]? = some (.cells #[.int .i64 a1_0, .int .i64 a1_1, .int .i64 a1_2] 82 (0, 0))) ∧ Aside0 (Below w.heap.size w w'))
 case atStart => exact ⟨(a1_0), (a1_1), (a1_2), rf_, rf_, rf_, H', ⟨Nat.le_refl _⟩, ⟨nB_ BK352.out⟩, ⟨by repeat (first | (with_reducible first | exact HB.out | apply below_alloc | apply pw_below_drewN | apply below_drew1 | refine below_set ?_ GE352.out) | exact HB.out)⟩⟩
 case round =>
  clear H'
  try clear p2
  try clear hcz4_0
  try clear hcz4_1
  try clear hcz4_2
  try clear hfz4_0
  try clear hfz4_1
  try clear hfz4_2
  obtain ⟨x7_1, x8_1, x9_1, rfl, rfl, rfl, HA, HK1, BK352, HB⟩ := hrel
  cases gk with
  | zero => exact absurd HA.out (by simp [clocheref09_follow.l0])
  | succ k1 =>
    have H := HA.out
    clear HA
    simp only [clocheref09_follow.l0] at H
    have H' := Aside0.mk H
    clear H
    go_wp2
    repeat (go_quiet (fail); try go_wp2)
    go_loopg [11, 12] k1 (fun kq v11 v12 w' => ∃ (x11_2 : Int) (x12_2 : Int), v11 = .int .i64 x11_2 ∧ v12 = .int .i64 x12_2 ∧ Aside0 (clocheref09_follow.l1 kq l0 x7_1 x8_1 x9_1 (wrap64 ((l0.length : Int) - 1)) x11_2 x12_2 = some (r1, r2, r3)) ∧ Aside0 (kq ≤ k1) ∧ Aside0 (w'.heap[gb352]? = some (.cells #[.int .i64 a1_0, .int .i64 a1_1, .int .i64 a1_2] 82 (0, 0))) ∧ Aside0 (Below w.heap.size w w'))
    case atStart => exact ⟨((-1)), (0), rf_, rf_, H', ⟨Nat.le_refl _⟩, ⟨nB_ BK352.out⟩, ⟨by repeat (first | (with_reducible first | exact HB.out | apply below_alloc | apply pw_below_drewN | apply below_drew1 | refine below_set ?_ GE352.out) | exact HB.out)⟩⟩
    case round =>
     clear H'
     try clear p2
     try clear hcz4_0
     try clear hcz4_1
     try clear hcz4_2
     try clear hfz4_0
     try clear hfz4_1
     try clear hfz4_2
     try clear p2
     obtain ⟨x11_2, x12_2, rfl, rfl, HA, HK2, BK352, HB⟩ := hrel
     cases gk with
     | zero => exact absurd HA.out (by simp [clocheref09_follow.l1])
     | succ k2 =>
      have H := HA.out
      clear HA
      simp only [clocheref09_follow.l1] at H
      by_cases c5 : x12_2 < 4
      · rw [if_pos c5] at H
        have c5b0 : decide (x12_2 < 4) = true := decide_eq_true c5
        clear c5
        by_cases c6 : x12_2 = (Int.tmod (wrap64 (x9_1 + 2)) 4)
        · rw [if_pos c6] at H
          have c6b0 : (x12_2 == (Int.tmod (wrap64 (x9_1 + 2)) 4)) = true := beq_iff_eq.mpr c6
          have c6b1 : (x12_2 != (Int.tmod (wrap64 (x9_1 + 2)) 4)) = false := bne_eq_false_iff_eq.mpr c6
          clear c6
          have H' := Aside0.mk H
          clear H
          go_wp2
          repeat (go_quiet (fail); try go_wp2)
          go_roundg k2
          case measure => have := HK1.out; have := HK2.out; omega
          case rel => exact ⟨(x11_2), (wrap64 (x12_2 + 1)), rf_, rf_, H', ⟨by have := HK1.out; have := HK2.out; omega⟩, ⟨nB_ BK352.out⟩, ⟨by repeat (first | (with_reducible first | exact HB.out | apply below_alloc | apply pw_below_drewN | apply below_drew1 | refine below_set ?_ GE352.out) | exact HB.out)⟩⟩
        · rw [if_neg c6] at H
          have c6b0 : (x12_2 == (Int.tmod (wrap64 (x9_1 + 2)) 4)) = false := beq_eq_false_iff_ne.mpr c6
          have c6b1 : (x12_2 != (Int.tmod (wrap64 (x9_1 + 2)) 4)) = true := bne_iff_ne.mpr c6
          replace H := Option.bind_eq_some_iff.mp H
          obtain ⟨t353, A70, H⟩ := H
          replace H : (if t353 = true then (clocheref09_follow.l1 k2 l0 x7_1 x8_1 x9_1 (wrap64 ((l0.length : Int) - 1)) x12_2 (wrap64 (x12_2 + 1))) else (clocheref09_follow.l1 k2 l0 x7_1 x8_1 x9_1 (wrap64 ((l0.length : Int) - 1)) x11_2 (wrap64 (x12_2 + 1)))) = some (r1, r2, r3) := H
          have A7 := Aside0.mk A70
          clear A70
          by_cases c8 : t353 = true
          · subst c8
            have H1 : (clocheref09_follow.l1 k2 l0 x7_1 x8_1 x9_1 (wrap64 ((l0.length : Int) - 1)) x12_2 (wrap64 (x12_2 + 1))) = some (r1, r2, r3) := by rw [if_pos rfl] at H; exact H
            clear H
            have H := H1
            clear H1
            have H' := Aside0.mk H
            clear H
            go_wp2_with (first | (go_at_call 82; (with_reducible refine (clocheref09_leads.calls _ _ l0 x7_1 x8_1 x12_2 true _ ?side1 ?side2 A7.out).mono ?_); (case side1 => repeat (first | exact (Kd.C_below HR0.out HB.out) | (with_reducible refine Kd.C_alloc ?_ _) | (with_reducible refine Kd.C_drewN ?_ _) | (with_reducible refine Kd.C_drew ?_))); (case side2 => exact HC0.out); rintro e w' ⟨rfl, ⟨nd, rfl⟩⟩; (try first | exact ⟨rfl, _, World.drewN_drewN _ _ _⟩ | exact ⟨rfl, _, Eq.trans (World.drewN_drewN _ _ _) (congrArg (World.drewN _) (Nat.add_assoc _ _ _))⟩)))
            repeat (go_quiet (first | (go_at_call 82; (with_reducible refine (clocheref09_leads.calls _ _ l0 x7_1 x8_1 x12_2 true _ ?side1 ?side2 A7.out).mono ?_); (case side1 => repeat (first | exact (Kd.C_below HR0.out HB.out) | (with_reducible refine Kd.C_alloc ?_ _) | (with_reducible refine Kd.C_drewN ?_ _) | (with_reducible refine Kd.C_drew ?_))); (case side2 => exact HC0.out); rintro e w' ⟨rfl, ⟨nd, rfl⟩⟩; (try first | exact ⟨rfl, _, World.drewN_drewN _ _ _⟩ | exact ⟨rfl, _, Eq.trans (World.drewN_drewN _ _ _) (congrArg (World.drewN _) (Nat.add_assoc _ _ _))⟩))); try go_wp2_with (first | (go_at_call 82; (with_reducible refine (clocheref09_leads.calls _ _ l0 x7_1 x8_1 x12_2 true _ ?side1 ?side2 A7.out).mono ?_); (case side1 => repeat (first | exact (Kd.C_below HR0.out HB.out) | (with_reducible refine Kd.C_alloc ?_ _) | (with_reducible refine Kd.C_drewN ?_ _) | (with_reducible refine Kd.C_drew ?_))); (case side2 => exact HC0.out); rintro e w' ⟨rfl, ⟨nd, rfl⟩⟩; (try first | exact ⟨rfl, _, World.drewN_drewN _ _ _⟩ | exact ⟨rfl, _, Eq.trans (World.drewN_drewN _ _ _) (congrArg (World.drewN _) (Nat.add_assoc _ _ _))⟩))))
            go_roundg k2
            case measure => have := HK1.out; have := HK2.out; omega
            case rel => exact ⟨(x12_2), (wrap64 (x12_2 + 1)), rf_, rf_, H', ⟨by have := HK1.out; have := HK2.out; omega⟩, ⟨nB_ BK352.out⟩, ⟨by repeat (first | (with_reducible first | exact HB.out | apply below_alloc | apply pw_below_drewN | apply below_drew1 | refine below_set ?_ GE352.out) | exact HB.out)⟩⟩
          · replace c8 := Bool.eq_false_iff.mpr c8
            subst c8
            have H1 : (clocheref09_follow.l1 k2 l0 x7_1 x8_1 x9_1 (wrap64 ((l0.length : Int) - 1)) x11_2 (wrap64 (x12_2 + 1))) = some (r1, r2, r3) := by rw [if_neg (show ¬ (false = true) by decide)] at H; exact H
            clear H
            have H := H1
            clear H1
            have H' := Aside0.mk H
            clear H
            go_wp2_with (first | (go_at_call 82; (with_reducible refine (clocheref09_leads.calls _ _ l0 x7_1 x8_1 x12_2 false _ ?side1 ?side2 A7.out).mono ?_); (case side1 => repeat (first | exact (Kd.C_below HR0.out HB.out) | (with_reducible refine Kd.C_alloc ?_ _) | (with_reducible refine Kd.C_drewN ?_ _) | (with_reducible refine Kd.C_drew ?_))); (case side2 => exact HC0.out); rintro e w' ⟨rfl, ⟨nd, rfl⟩⟩; (try first | exact ⟨rfl, _, World.drewN_drewN _ _ _⟩ | exact ⟨rfl, _, Eq.trans (World.drewN_drewN _ _ _) (congrArg (World.drewN _) (Nat.add_assoc _ _ _))⟩)))
            repeat (go_quiet (first | (go_at_call 82; (with_reducible refine (clocheref09_leads.calls _ _ l0 x7_1 x8_1 x12_2 false _ ?side1 ?side2 A7.out).mono ?_); (case side1 => repeat (first | exact (Kd.C_below HR0.out HB.out) | (with_reducible refine Kd.C_alloc ?_ _) | (with_reducible refine Kd.C_drewN ?_ _) | (with_reducible refine Kd.C_drew ?_))); (case side2 => exact HC0.out); rintro e w' ⟨rfl, ⟨nd, rfl⟩⟩; (try first | exact ⟨rfl, _, World.drewN_drewN _ _ _⟩ | exact ⟨rfl, _, Eq.trans (World.drewN_drewN _ _ _) (congrArg (World.drewN _) (Nat.add_assoc _ _ _))⟩))); try go_wp2_with (first | (go_at_call 82; (with_reducible refine (clocheref09_leads.calls _ _ l0 x7_1 x8_1 x12_2 false _ ?side1 ?side2 A7.out).mono ?_); (case side1 => repeat (first | exact (Kd.C_below HR0.out HB.out) | (with_reducible refine Kd.C_alloc ?_ _) | (with_reducible refine Kd.C_drewN ?_ _) | (with_reducible refine Kd.C_drew ?_))); (case side2 => exact HC0.out); rintro e w' ⟨rfl, ⟨nd, rfl⟩⟩; (try first | exact ⟨rfl, _, World.drewN_drewN _ _ _⟩ | exact ⟨rfl, _, Eq.trans (World.drewN_drewN _ _ _) (congrArg (World.drewN _) (Nat.add_assoc _ _ _))⟩))))
            go_roundg k2
            case measure => have := HK1.out; have := HK2.out; omega
            case rel => exact ⟨(x11_2), (wrap64 (x12_2 + 1)), rf_, rf_, H', ⟨by have := HK1.out; have := HK2.out; omega⟩, ⟨nB_ BK352.out⟩, ⟨by repeat (first | (with_reducible first | exact HB.out | apply below_alloc | apply pw_below_drewN | apply below_drew1 | refine below_set ?_ GE352.out) | exact HB.out)⟩⟩
      · rw [if_neg c5] at H
        have c5b0 : decide (x12_2 < 4) = false := decide_eq_false c5
        clear c5
        by_cases c9 : x11_2 = 0
        · rw [if_pos c9] at H
          have c9b0 : (x11_2 == 0) = true := beq_iff_eq.mpr c9
          have c9b1 : (x11_2 != 0) = false := bne_eq_false_iff_eq.mpr c9
          clear c9
          by_cases c10 : (wrap64 (x7_1 + 1)) < 1
          · rw [if_pos c10] at H
            have c10b0 : decide ((wrap64 (x7_1 + 1)) < 1) = true := decide_eq_true c10
            clear c10
            simp only [Option.some.injEq, Prod.mk.injEq] at H
            obtain ⟨rfl, rfl, rfl⟩ := H
            go_wp2
            repeat (go_quiet (fail); try go_wp2)
            go_ret3
            exact ⟨er_, by repeat (first | (with_reducible first | exact HB.out | apply below_alloc | apply pw_below_drewN | apply below_drew1 | refine below_set ?_ GE352.out) | exact HB.out)⟩
          · rw [if_neg c10] at H
            have c10b0 : decide ((wrap64 (x7_1 + 1)) < 1) = false := decide_eq_false c10
            clear c10
            by_cases c11 : (wrap64 (x7_1 + 1)) > (wrap64 ((l0.length : Int) - 1))
            · rw [if_pos c11] at H
              have c11b0 : decide ((wrap64 ((l0.length : Int) - 1)) < (wrap64 (x7_1 + 1))) = true := decide_eq_true c11
              clear c11
              simp only [Option.some.injEq, Prod.mk.injEq] at H
              obtain ⟨rfl, rfl, rfl⟩ := H
              go_wp2
              repeat (go_quiet (fail); try go_wp2)
              go_ret3
              exact ⟨er_, by repeat (first | (with_reducible first | exact HB.out | apply below_alloc | apply pw_below_drewN | apply below_drew1 | refine below_set ?_ GE352.out) | exact HB.out)⟩
            · rw [if_neg c11] at H
              have c11b0 : decide ((wrap64 ((l0.length : Int) - 1)) < (wrap64 (x7_1 + 1))) = false := decide_eq_false c11
              clear c11
              by_cases c12 : x8_1 < 1
              · rw [if_pos c12] at H
                have c12b0 : decide (x8_1 < 1) = true := decide_eq_true c12
                clear c12
                simp only [Option.some.injEq, Prod.mk.injEq] at H
                obtain ⟨rfl, rfl, rfl⟩ := H
                go_wp2
                repeat (go_quiet (fail); try go_wp2)
                go_ret3
                exact ⟨er_, by repeat (first | (with_reducible first | exact HB.out | apply below_alloc | apply pw_below_drewN | apply below_drew1 | refine below_set ?_ GE352.out) | exact HB.out)⟩
              · rw [if_neg c12] at H
                have c12b0 : decide (x8_1 < 1) = false := decide_eq_false c12
                clear c12
                by_cases c13 : x8_1 > (wrap64 ((l0.length : Int) - 1))
                · rw [if_pos c13] at H
                  have c13b0 : decide ((wrap64 ((l0.length : Int) - 1)) < x8_1) = true := decide_eq_true c13
                  clear c13
                  simp only [Option.some.injEq, Prod.mk.injEq] at H
                  obtain ⟨rfl, rfl, rfl⟩ := H
                  go_wp2
                  repeat (go_quiet (fail); try go_wp2)
                  go_ret3
                  exact ⟨er_, by repeat (first | (with_reducible first | exact HB.out | apply below_alloc | apply pw_below_drewN | apply below_drew1 | refine below_set ?_ GE352.out) | exact HB.out)⟩
                · rw [if_neg c13] at H
                  have c13b0 : decide ((wrap64 ((l0.length : Int) - 1)) < x8_1) = false := decide_eq_false c13
                  clear c13
                  have H' := Aside0.mk H
                  clear H
                  go_wp2
                  repeat (go_quiet (fail); try go_wp2)
                  go_roundg k2
                  case measure => have := HK1.out; have := HK2.out; omega
                  case rel => exact ⟨(wrap64 (x7_1 + 1)), (x8_1), (x11_2), rf_, rf_, rf_, H', ⟨by have := HK1.out; have := HK2.out; omega⟩, ⟨nB_ BK352.out⟩, ⟨by repeat (first | (with_reducible first | exact HB.out | apply below_alloc | apply pw_below_drewN | apply below_drew1 | refine below_set ?_ GE352.out) | exact HB.out)⟩⟩
        · rw [if_neg c9] at H
          have c9b0 : (x11_2 == 0) = false := beq_eq_false_iff_ne.mpr c9
          have c9b1 : (x11_2 != 0) = true := bne_iff_ne.mpr c9
          by_cases c14 : x11_2 = 1
          · rw [if_pos c14] at H
            have c14b0 : (x11_2 == 1) = true := beq_iff_eq.mpr c14
            have c14b1 : (x11_2 != 1) = false := bne_eq_false_iff_eq.mpr c14
            clear c14
            by_cases c15 : x7_1 < 1
            · rw [if_pos c15] at H
              have c15b0 : decide (x7_1 < 1) = true := decide_eq_true c15
              clear c15
              simp only [Option.some.injEq, Prod.mk.injEq] at H
              obtain ⟨rfl, rfl, rfl⟩ := H
              go_wp2
              repeat (go_quiet (fail); try go_wp2)
              go_ret3
              exact ⟨er_, by repeat (first | (with_reducible first | exact HB.out | apply below_alloc | apply pw_below_drewN | apply below_drew1 | refine below_set ?_ GE352.out) | exact HB.out)⟩
            · rw [if_neg c15] at H
              have c15b0 : decide (x7_1 < 1) = false := decide_eq_false c15
              clear c15
              by_cases c16 : x7_1 > (wrap64 ((l0.length : Int) - 1))
              · rw [if_pos c16] at H
                have c16b0 : decide ((wrap64 ((l0.length : Int) - 1)) < x7_1) = true := decide_eq_true c16
                clear c16
                simp only [Option.some.injEq, Prod.mk.injEq] at H
                obtain ⟨rfl, rfl, rfl⟩ := H
                go_wp2
                repeat (go_quiet (fail); try go_wp2)
                go_ret3
                exact ⟨er_, by repeat (first | (with_reducible first | exact HB.out | apply below_alloc | apply pw_below_drewN | apply below_drew1 | refine below_set ?_ GE352.out) | exact HB.out)⟩
              · rw [if_neg c16] at H
                have c16b0 : decide ((wrap64 ((l0.length : Int) - 1)) < x7_1) = false := decide_eq_false c16
                clear c16
                by_cases c17 : (wrap64 (x8_1 - 1)) < 1
                · rw [if_pos c17] at H
                  have c17b0 : decide ((wrap64 (x8_1 - 1)) < 1) = true := decide_eq_true c17
                  clear c17
                  simp only [Option.some.injEq, Prod.mk.injEq] at H
                  obtain ⟨rfl, rfl, rfl⟩ := H
                  go_wp2
                  repeat (go_quiet (fail); try go_wp2)
                  go_ret3
                  exact ⟨er_, by repeat (first | (with_reducible first | exact HB.out | apply below_alloc | apply pw_below_drewN | apply below_drew1 | refine below_set ?_ GE352.out) | exact HB.out)⟩
                · rw [if_neg c17] at H
                  have c17b0 : decide ((wrap64 (x8_1 - 1)) < 1) = false := decide_eq_false c17
                  clear c17
                  by_cases c18 : (wrap64 (x8_1 - 1)) > (wrap64 ((l0.length : Int) - 1))
                  · rw [if_pos c18] at H
                    have c18b0 : decide ((wrap64 ((l0.length : Int) - 1)) < (wrap64 (x8_1 - 1))) = true := decide_eq_true c18
                    clear c18
                    simp only [Option.some.injEq, Prod.mk.injEq] at H
                    obtain ⟨rfl, rfl, rfl⟩ := H
                    go_wp2
                    repeat (go_quiet (fail); try go_wp2)
                    go_ret3
                    exact ⟨er_, by repeat (first | (with_reducible first | exact HB.out | apply below_alloc | apply pw_below_drewN | apply below_drew1 | refine below_set ?_ GE352.out) | exact HB.out)⟩
                  · rw [if_neg c18] at H
                    have c18b0 : decide ((wrap64 ((l0.length : Int) - 1)) < (wrap64 (x8_1 - 1))) = false := decide_eq_false c18
                    clear c18
                    have H' := Aside0.mk H
                    clear H
                    go_wp2
                    repeat (go_quiet (fail); try go_wp2)
                    go_roundg k2
                    case measure => have := HK1.out; have := HK2.out; omega
                    case rel => exact ⟨(x7_1), (wrap64 (x8_1 - 1)), (x11_2), rf_, rf_, rf_, H', ⟨by have := HK1.out; have := HK2.out; omega⟩, ⟨nB_ BK352.out⟩, ⟨by repeat (first | (with_reducible first | exact HB.out | apply below_alloc | apply pw_below_drewN | apply below_drew1 | refine below_set ?_ GE352.out) | exact HB.out)⟩⟩
          · rw [if_neg c14] at H
            have c14b0 : (x11_2 == 1) = false := beq_eq_false_iff_ne.mpr c14
            have c14b1 : (x11_2 != 1) = true := bne_iff_ne.mpr c14
            by_cases c19 : x11_2 = 2
            · rw [if_pos c19] at H
              have c19b0 : (x11_2 == 2) = true := beq_iff_eq.mpr c19
              have c19b1 : (x11_2 != 2) = false := bne_eq_false_iff_eq.mpr c19
              clear c19
              by_cases c20 : (wrap64 (x7_1 - 1)) < 1
              · rw [if_pos c20] at H
                have c20b0 : decide ((wrap64 (x7_1 - 1)) < 1) = true := decide_eq_true c20
                clear c20
                simp only [Option.some.injEq, Prod.mk.injEq] at H
                obtain ⟨rfl, rfl, rfl⟩ := H
                go_wp2
                repeat (go_quiet (fail); try go_wp2)
                go_ret3
                exact ⟨er_, by repeat (first | (with_reducible first | exact HB.out | apply below_alloc | apply pw_below_drewN | apply below_drew1 | refine below_set ?_ GE352.out) | exact HB.out)⟩
              · rw [if_neg c20] at H
                have c20b0 : decide ((wrap64 (x7_1 - 1)) < 1) = false := decide_eq_false c20
                clear c20
                by_cases c21 : (wrap64 (x7_1 - 1)) > (wrap64 ((l0.length : Int) - 1))
                · rw [if_pos c21] at H
                  have c21b0 : decide ((wrap64 ((l0.length : Int) - 1)) < (wrap64 (x7_1 - 1))) = true := decide_eq_true c21
                  clear c21
                  simp only [Option.some.injEq, Prod.mk.injEq] at H
                  obtain ⟨rfl, rfl, rfl⟩ := H
                  go_wp2
                  repeat (go_quiet (fail); try go_wp2)
                  go_ret3
                  exact ⟨er_, by repeat (first | (with_reducible first | exact HB.out | apply below_alloc | apply pw_below_drewN | apply below_drew1 | refine below_set ?_ GE352.out) | exact HB.out)⟩
                · rw [if_neg c21] at H
                  have c21b0 : decide ((wrap64 ((l0.length : Int) - 1)) < (wrap64 (x7_1 - 1))) = false := decide_eq_false c21
                  clear c21
                  by_cases c22 : x8_1 < 1
                  · rw [if_pos c22] at H
                    have c22b0 : decide (x8_1 < 1) = true := decide_eq_true c22
                    clear c22
                    simp only [Option.some.injEq, Prod.mk.injEq] at H
                    obtain ⟨rfl, rfl, rfl⟩ := H
                    go_wp2
                    repeat (go_quiet (fail); try go_wp2)
                    go_ret3
                    exact ⟨er_, by repeat (first | (with_reducible first | exact HB.out | apply below_alloc | apply pw_below_drewN | apply below_drew1 | refine below_set ?_ GE352.out) | exact HB.out)⟩
                  · rw [if_neg c22] at H
                    have c22b0 : decide (x8_1 < 1) = false := decide_eq_false c22
                    clear c22
                    by_cases c23 : x8_1 > (wrap64 ((l0.length : Int) - 1))
                    · rw [if_pos c23] at H
                      have c23b0 : decide ((wrap64 ((l0.length : Int) - 1)) < x8_1) = true := decide_eq_true c23
                      clear c23
                      simp only [Option.some.injEq, Prod.mk.injEq] at H
                      obtain ⟨rfl, rfl, rfl⟩ := H
                      go_wp2
                      repeat (go_quiet (fail); try go_wp2)
                      go_ret3
                      exact ⟨er_, by repeat (first | (with_reducible first | exact HB.out | apply below_alloc | apply pw_below_drewN | apply below_drew1 | refine below_set ?_ GE352.out) | exact HB.out)⟩
                    · rw [if_neg c23] at H
                      have c23b0 : decide ((wrap64 ((l0.length : Int) - 1)) < x8_1) = false := decide_eq_false c23
                      clear c23
                      have H' := Aside0.mk H
                      clear H
                      go_wp2
                      repeat (go_quiet (fail); try go_wp2)
                      go_roundg k2
                      case measure => have := HK1.out; have := HK2.out; omega
                      case rel => exact ⟨(wrap64 (x7_1 - 1)), (x8_1), (x11_2), rf_, rf_, rf_, H', ⟨by have := HK1.out; have := HK2.out; omega⟩, ⟨nB_ BK352.out⟩, ⟨by repeat (first | (with_reducible first | exact HB.out | apply below_alloc | apply pw_below_drewN | apply below_drew1 | refine below_set ?_ GE352.out) | exact HB.out)⟩⟩
            · rw [if_neg c19] at H
              have c19b0 : (x11_2 == 2) = false := beq_eq_false_iff_ne.mpr c19
              have c19b1 : (x11_2 != 2) = true := bne_iff_ne.mpr c19
              by_cases c24 : x7_1 < 1
              · rw [if_pos c24] at H
                have c24b0 : decide (x7_1 < 1) = true := decide_eq_true c24
                clear c24
                simp only [Option.some.injEq, Prod.mk.injEq] at H
                obtain ⟨rfl, rfl, rfl⟩ := H
                go_wp2
                repeat (go_quiet (fail); try go_wp2)
                go_ret3
                exact ⟨er_, by repeat (first | (with_reducible first | exact HB.out | apply below_alloc | apply pw_below_drewN | apply below_drew1 | refine below_set ?_ GE352.out) | exact HB.out)⟩
              · rw [if_neg c24] at H
                have c24b0 : decide (x7_1 < 1) = false := decide_eq_false c24
                clear c24
                by_cases c25 : x7_1 > (wrap64 ((l0.length : Int) - 1))
                · rw [if_pos c25] at H
                  have c25b0 : decide ((wrap64 ((l0.length : Int) - 1)) < x7_1) = true := decide_eq_true c25
                  clear c25
                  simp only [Option.some.injEq, Prod.mk.injEq] at H
                  obtain ⟨rfl, rfl, rfl⟩ := H
                  go_wp2
                  repeat (go_quiet (fail); try go_wp2)
                  go_ret3
                  exact ⟨er_, by repeat (first | (with_reducible first | exact HB.out | apply below_alloc | apply pw_below_drewN | apply below_drew1 | refine below_set ?_ GE352.out) | exact HB.out)⟩
                · rw [if_neg c25] at H
                  have c25b0 : decide ((wrap64 ((l0.length : Int) - 1)) < x7_1) = false := decide_eq_false c25
                  clear c25
                  by_cases c26 : (wrap64 (x8_1 + 1)) < 1
                  · rw [if_pos c26] at H
                    have c26b0 : decide ((wrap64 (x8_1 + 1)) < 1) = true := decide_eq_true c26
                    clear c26
                    simp only [Option.some.injEq, Prod.mk.injEq] at H
                    obtain ⟨rfl, rfl, rfl⟩ := H
                    go_wp2
                    repeat (go_quiet (fail); try go_wp2)
                    go_ret3
                    exact ⟨er_, by repeat (first | (with_reducible first | exact HB.out | apply below_alloc | apply pw_below_drewN | apply below_drew1 | refine below_set ?_ GE352.out) | exact HB.out)⟩
                  · rw [if_neg c26] at H
                    have c26b0 : decide ((wrap64 (x8_1 + 1)) < 1) = false := decide_eq_false c26
                    clear c26
                    by_cases c27 : (wrap64 (x8_1 + 1)) > (wrap64 ((l0.length : Int) - 1))
                    · rw [if_pos c27] at H
                      have c27b0 : decide ((wrap64 ((l0.length : Int) - 1)) < (wrap64 (x8_1 + 1))) = true := decide_eq_true c27
                      clear c27
                      simp only [Option.some.injEq, Prod.mk.injEq] at H
                      obtain ⟨rfl, rfl, rfl⟩ := H
                      go_wp2
                      repeat (go_quiet (fail); try go_wp2)
                      go_ret3
                      exact ⟨er_, by repeat (first | (with_reducible first | exact HB.out | apply below_alloc | apply pw_below_drewN | apply below_drew1 | refine below_set ?_ GE352.out) | exact HB.out)⟩
                    · rw [if_neg c27] at H
                      have c27b0 : decide ((wrap64 ((l0.length : Int) - 1)) < (wrap64 (x8_1 + 1))) = false := decide_eq_false c27
                      clear c27
                      have H' := Aside0.mk H
                      clear H
                      go_wp2
                      repeat (go_quiet (fail); try go_wp2)
                      go_roundg k2
                      case measure => have := HK1.out; have := HK2.out; omega
                      case rel => exact ⟨(x7_1), (wrap64 (x8_1 + 1)), (x11_2), rf_, rf_, rf_, H', ⟨by have := HK1.out; have := HK2.out; omega⟩, ⟨nB_ BK352.out⟩, ⟨by repeat (first | (with_reducible first | exact HB.out | apply below_alloc | apply pw_below_drewN | apply below_drew1 | refine below_set ?_ GE352.out) | exact HB.out)⟩⟩

end Go.Proofs.Ytdinepghommchaa.V

-- Written by a program of this session over the kit's printer: wip/gp.py.
namespace Go.Proofs.Ytdinepghommchaa.V
open Go.RowKit Go.Proofs.YtdinepghommchaaW.PrintWords Go.Proofs.YtdinepghommchaaW.PrintLast Go.Proofs.YtdinepghommchaaW.PrintMore
attribute [local go_sem] max2_int min2_int max_two min_two max_three min_three max_four min_four   -- for this text's walks alone
set_option linter.unusedVariables false
set_option linter.unusedSimpArgs false

/-! ### clocheref09_pairing: function 52 -/
mutual
def clocheref09_pairing.l0 : Nat → List (List Int) → List (S82) → List Int → Int → Option (List Int)
 | 0, _, _, _, _ => none
 | k + 1, x3, x4, x5, x6 => if x6 < (x4.length : Int) then (if 0 ≤ x6 then ((clocheref09_follow.f k x3 ((rd_T82 x4 x6).f0) ((rd_T82 x4 x6).f1) ((rd_T82 x4 x6).f2)).bind fun bt361 => (clocheref09_pairing.l1 k x3 x4 x5 x6 bt361.1 bt361.2.1 bt361.2.2 0)) else (none)) else (some x5)
def clocheref09_pairing.l1 : Nat → List (List Int) → List (S82) → List Int → Int → Int → Int → Int → Int → Option (List Int)
 | 0, _, _, _, _, _, _, _, _ => none
 | k + 1, x3, x4, x5, x6, x7, x8, x9, x10 => if x10 < (x4.length : Int) then (if 0 ≤ x10 then (if ((rd_T82 x4 x10).f0) = x7 then (if ((rd_T82 x4 x10).f1) = x8 then (if (Int.tmod (wrap64 (((rd_T82 x4 x10).f2) + 2)) 4) = x9 then (if x5.length < 17592186044416 then (clocheref09_pairing.l1 k x3 x4 (x5 ++ [x10]) x6 x7 x8 x9 (wrap64 (x10 + 1))) else (none)) else (clocheref09_pairing.l1 k x3 x4 x5 x6 x7 x8 x9 (wrap64 (x10 + 1)))) else (clocheref09_pairing.l1 k x3 x4 x5 x6 x7 x8 x9 (wrap64 (x10 + 1)))) else (clocheref09_pairing.l1 k x3 x4 x5 x6 x7 x8 x9 (wrap64 (x10 + 1)))) else (none)) else (clocheref09_pairing.l0 k x3 x4 x5 (wrap64 (x6 + 1)))
end
def clocheref09_pairing.f (k : Nat) (l0 : List (List Int)) : Option (List Int) := (clocheref09_heights.f k l0).bind fun t354 => ((clocheref09_Ends.f k t354).bind fun t357 => (clocheref09_pairing.l0 k t354 t357 ([] : List Int) 0))
theorem clocheref09_pairing.mono_l : ∀ k, (∀ y0 y1 y2 y3, LeO (clocheref09_pairing.l0 k y0 y1 y2 y3) (clocheref09_pairing.l0 (k + 1) y0 y1 y2 y3)) ∧ (∀ y0 y1 y2 y3 y4 y5 y6 y7, LeO (clocheref09_pairing.l1 k y0 y1 y2 y3 y4 y5 y6 y7) (clocheref09_pairing.l1 (k + 1) y0 y1 y2 y3 y4 y5 y6 y7))
 | 0 => ⟨fun _ _ _ _ r h => by simp [clocheref09_pairing.l0] at h, fun _ _ _ _ _ _ _ _ r h => by simp [clocheref09_pairing.l1] at h⟩
 | k + 1 => by
  obtain ⟨ih0, ih1⟩ := clocheref09_pairing.mono_l k
  refine ⟨?_, ?_⟩
  · intro y0 y1 y2 y3
    unfold clocheref09_pairing.l0
    repeat' first
    | (with_reducible exact ih0 _ _ _ _)
    | (with_reducible exact ih1 _ _ _ _ _ _ _ _)
    | (with_reducible exact clocheref09_Ends.mono _ _)
    | (with_reducible exact clocheref09_follow.mono _ _ _ _ _)
    | (with_reducible exact clocheref09_heights.mono _ _)
    | (with_reducible exact LeO.refl _)
    | (with_reducible exact LeO.none _)
    | (with_reducible refine LeO.ite ?_ ?_)
    | (with_reducible refine LeO.bind ?_ (fun _ => ?_))
    | exact ih0 _ _ _ _
    | exact ih1 _ _ _ _ _ _ _ _
    | exact clocheref09_Ends.mono _ _
    | exact clocheref09_follow.mono _ _ _ _ _
    | exact clocheref09_heights.mono _ _
    | exact LeO.none _
    | refine LeO.ite ?_ ?_
    | refine LeO.bind ?_ (fun _ => ?_)
  · intro y0 y1 y2 y3 y4 y5 y6 y7
    unfold clocheref09_pairing.l1
    repeat' first
    | (with_reducible exact ih0 _ _ _ _)
    | (with_reducible exact ih1 _ _ _ _ _ _ _ _)
    | (with_reducible exact clocheref09_Ends.mono _ _)
    | (with_reducible exact clocheref09_follow.mono _ _ _ _ _)
    | (with_reducible exact clocheref09_heights.mono _ _)
    | (with_reducible exact LeO.refl _)
    | (with_reducible exact LeO.none _)
    | (with_reducible refine LeO.ite ?_ ?_)
    | (with_reducible refine LeO.bind ?_ (fun _ => ?_))
    | exact ih0 _ _ _ _
    | exact ih1 _ _ _ _ _ _ _ _
    | exact clocheref09_Ends.mono _ _
    | exact clocheref09_follow.mono _ _ _ _ _
    | exact clocheref09_heights.mono _ _
    | exact LeO.none _
    | refine LeO.ite ?_ ?_
    | refine LeO.bind ?_ (fun _ => ?_)
theorem clocheref09_pairing.mono : ∀ a0 k, LeO (clocheref09_pairing.f k a0) (clocheref09_pairing.f (k + 1) a0) := by
 intro a0 k
 obtain ⟨ih0, ih1⟩ := clocheref09_pairing.mono_l k
 unfold clocheref09_pairing.f
 repeat' first
  | (with_reducible exact ih0 _ _ _ _)
  | (with_reducible exact ih1 _ _ _ _ _ _ _ _)
  | (with_reducible exact clocheref09_Ends.mono _ _)
  | (with_reducible exact clocheref09_follow.mono _ _ _ _ _)
  | (with_reducible exact clocheref09_heights.mono _ _)
  | (with_reducible exact LeO.refl _)
  | (with_reducible exact LeO.none _)
  | (with_reducible refine LeO.ite ?_ ?_)
  | (with_reducible refine LeO.bind ?_ (fun _ => ?_))
  | exact ih0 _ _ _ _
  | exact ih1 _ _ _ _ _ _ _ _
  | exact clocheref09_Ends.mono _ _
  | exact clocheref09_follow.mono _ _ _ _ _
  | exact clocheref09_heights.mono _ _
  | exact LeO.none _
  | refine LeO.ite ?_ ?_
  | refine LeO.bind ?_ (fun _ => ?_)
set_option maxHeartbeats 8000000 in
set_option maxRecDepth 100000 in
theorem clocheref09_pairing.calls (k : Nat) (A0 : Option Addr) (c0 : Nat) (l0 : List (List Int)) (r : List Int) (w : World) (hr0 : Kd.C (Kd.slice 3 (Kd.int .i64)) w A0 l0.length l0) (hc0 : l0.length ≤ c0) (h : clocheref09_pairing.f k l0 = some r) :
 Calls Try.prog 52 #[.slice A0 l0.length c0] w fun e w' => ∃ v0_ : Value, e = .returned (v0_) ∧ Kd.R (Kd.int .i64) 3 w' w.heap.size (fun _ => True) v0_ r ∧ Below w.heap.size w w' := by
 have hu82 := Try.underlying82
 have HR0 := Aside0.mk hr0
 have HC0 := Aside0.mk hc0
 clear hr0 hc0
 have HB := Aside0.mk (Below.refl w.heap.size w)
 have H : ((clocheref09_heights.f k l0).bind fun t354 => ((clocheref09_Ends.f k t354).bind fun t357 => (clocheref09_pairing.l0 k t354 t357 ([] : List Int) 0))) = some r := h
 clear h
 replace H := Option.bind_eq_some_iff.mp H
 obtain ⟨t354, A20, H⟩ := H
 replace H : ((clocheref09_Ends.f k t354).bind fun t357 => (clocheref09_pairing.l0 k t354 t357 ([] : List Int) 0)) = some r := H
 have A2 := Aside0.mk A20
 clear A20
 replace H := Option.bind_eq_some_iff.mp H
 obtain ⟨t357, A30, H⟩ := H
 replace H : (clocheref09_pairing.l0 k t354 t357 ([] : List Int) 0) = some r := H
 have A3 := Aside0.mk A30
 clear A30
 have H' := Aside0.mk H
 clear H
 go_enter Try.func52, Try.ntmps52
 go_wp2_with (first | ((with_reducible refine gate_callee (f := 57) rfl ?_); refine goesL_ (some 12) rfl rfl Try.func57 (by kernel_rfl) rfl #[.slice A0 l0.length c0] rfl ar_ ?_; (with_reducible refine (clocheref09_heights.calls k _ _ l0 t354 _ ?side1 ?side2 A2.out).mono ?_); (case side1 => repeat (first | exact HR0.out | (with_reducible refine Kd.C_alloc ?_ _) | (with_reducible refine Kd.C_drewN ?_ _) | (with_reducible refine Kd.C_drew ?_))); (case side2 => exact HC0.out); rintro e w4 ⟨v355, rfl, ho0, hb⟩; refine ⟨_, rfl, ?_⟩; have n0_ := Aside0.mk (Kd.S_lower ho0 (below_size (bel_))); have n1_ := Aside0.mk (below_step (bel_) hb); clear HB; have HO356 := n0_; have HB := n1_; clear n0_ n1_; (try clear hb); (try clear hb2); (try clear hk); (try clear hi); (try clear ho0); obtain ⟨Ao5, co5, eo5⟩ := Kd.S_slice HO356.out; subst eo5) | ((with_reducible refine gate_callee (f := 71) rfl ?_); refine goesL_ (some 14) rfl rfl Try.func71 (by kernel_rfl) rfl #[.slice Ao5 t354.length co5] rfl ar_ ?_; (with_reducible refine (clocheref09_Ends.calls k _ _ t354 t357 _ ?side1 ?side2 A3.out).mono ?_); (case side1 => repeat (first | exact (Kd.S_reads' HO356.out).2.2 | (with_reducible refine Kd.C_alloc ?_ _) | (with_reducible refine Kd.C_drewN ?_ _) | (with_reducible refine Kd.C_drew ?_))); (case side2 => exact (Kd.S_reads' HO356.out).2.1); rintro e w6 ⟨v358, rfl, ho0, hb⟩; refine ⟨_, rfl, ?_⟩; have n0_ := Aside0.mk (Kd.S_below (nS_ HO356.out) hb); have n1_ := Aside0.mk (Kd.R_lower ho0 (below_size (bel_))); have n2_ := Aside0.mk (below_step (bel_) hb); clear HO356; clear HB; have HO356 := n0_; have HO359 := n1_; have HB := n2_; clear n0_ n1_ n2_; (try clear hb); (try clear hb2); (try clear hk); (try clear hi); (try clear ho0)))
 go_loopg [5, 6] k (fun kq v5 v6 w' => ∃ (x5_1 : List Int) (x6_1 : Int), v6 = .int .i64 x6_1 ∧ Aside0 (clocheref09_pairing.l0 kq t354 t357 x5_1 x6_1 = some r) ∧ Aside0 (kq ≤ k) ∧ Aside0 (Kd.S (Kd.slice 3 (Kd.int .i64)) 28 w' w.heap.size (fun k_ => some k_ ≠ (v5 : Value).ownBlock) (.slice Ao5 t354.length co5) t354) ∧ Aside0 (Kd.R k82 82 w' w.heap.size (fun _ => True) v358 t357) ∧ Aside0 (Kd.R (Kd.int .i64) 3 w' w.heap.size (fun _ => True) v5 x5_1) ∧ Aside0 (Below w.heap.size w w'))
 case atStart => exact ⟨(([] : List Int)), (0), rf_, H', ⟨Nat.le_refl _⟩, ⟨by (with_reducible repeat (first | apply Kd.S_alloc | apply Kd.S_drewN | apply Kd.S_drew)); exact Kd.S_mono HO356.out (fun _ hk => (by simp [Value.ownBlock]))⟩, ⟨nR_ HO359.out⟩, ⟨by first | exact Kd.R_nil _ _ _ _ _ | exact Kd.N_nil _ _ _ _ _ | exact Kd.V_nil _ _ _ _ _ | exact Kd.Q_nil _ _ _ _ _ | exact Kd.S_nil _ _ _ _ _⟩, ⟨bel_⟩⟩
 case round =>
  clear H'
  try clear p2
  try clear c5
  obtain ⟨x5_1, x6_1, rfl, HA, HK1, HO_3, HO_4, HO_5, HB⟩ := hrel
  cases gk with
  | zero => exact absurd HA.out (by simp [clocheref09_pairing.l0])
  | succ k1 =>
    have H := HA.out
    clear HA
    simp only [clocheref09_pairing.l0] at H
    by_cases c7 : x6_1 < (t357.length : Int)
    · rw [if_pos c7] at H
      have c7b0 : decide (x6_1 < (t357.length : Int)) = true := decide_eq_true c7
      clear c7
      by_cases c8 : 0 ≤ x6_1
      · rw [if_pos c8] at H
        have c8b0 : decide (0 ≤ x6_1) = true := decide_eq_true c8
        clear c8
        replace H := Option.bind_eq_some_iff.mp H
        obtain ⟨⟨t361, t362, t363⟩, A90, H⟩ := H
        replace H : (clocheref09_pairing.l1 k1 t354 t357 x5_1 x6_1 t361 t362 t363 0) = some r := H
        have A9 := Aside0.mk A90
        clear A90
        have H' := Aside0.mk H
        clear H
        obtain ⟨Ao10, co10, eo10⟩ := Kd.R_slice HO_4.out
        subst eo10
        have p360 : 0 ≤ (x6_1 : Int) := od_
        have q360 : x6_1 < (t357.length : Int) := od_
        obtain ⟨ad360, e360, hx360_0, hx360_1, hx360_2⟩ := at_T82 (Kd.R_reads' HO_4.out).2.2 x6_1 p360 q360
        cases e360
        replace p360 := eq_true p360
        replace q360 := eq_true q360
        go_wp2_with (first | ((with_reducible refine gate_callee (f := 72) rfl ?_); refine goesL_ (some 27) rfl rfl Try.func72 (by kernel_rfl) rfl #[.slice Ao5 t354.length co5, .agg #[.int .i64 ((rd_T82 t357 x6_1).f0), .int .i64 ((rd_T82 t357 x6_1).f1), .int .i64 ((rd_T82 t357 x6_1).f2)]] rfl ar_ ?_; (with_reducible refine (clocheref09_follow.calls k1 _ _ t354 ((rd_T82 t357 x6_1).f0) ((rd_T82 t357 x6_1).f1) ((rd_T82 t357 x6_1).f2) t361 t362 t363 _ ?side1 ?side2 A9.out).mono ?_); (case side1 => repeat (first | exact (Kd.S_reads' HO_3.out).2.2 | (with_reducible refine Kd.C_alloc ?_ _) | (with_reducible refine Kd.C_drewN ?_ _) | (with_reducible refine Kd.C_drew ?_))); (case side2 => exact (Kd.S_reads' HO_3.out).2.1); rintro e w11 ⟨rfl, hb⟩; refine ⟨_, rfl, ?_⟩; have n0_ := Aside0.mk (Kd.S_below (nS_ HO_3.out) hb); have n1_ := Aside0.mk (Kd.R_below (nR_ HO_4.out) hb); have n2_ := Aside0.mk (Kd.R_below (nR_ HO_5.out) hb); have n3_ := Aside0.mk (below_step (bel_) hb); clear HO_3; clear HO_4; clear HO_5; clear HB; have HO_3 := n0_; have HO_4 := n1_; have HO_5 := n2_; have HB := n3_; clear n0_ n1_ n2_ n3_; (try clear hb); (try clear hb2); (try clear hk); (try clear hi)))
        go_loopg [5, 10] k1 (fun kq v5 v10 w' => ∃ (x5_2 : List Int) (x10_2 : Int), v10 = .int .i64 x10_2 ∧ Aside0 (clocheref09_pairing.l1 kq t354 t357 x5_2 x6_1 t361 t362 t363 x10_2 = some r) ∧ Aside0 (kq ≤ k1) ∧ Aside0 (Kd.S (Kd.slice 3 (Kd.int .i64)) 28 w' w.heap.size (fun k_ => some k_ ≠ (v5 : Value).ownBlock) (.slice Ao5 t354.length co5) t354) ∧ Aside0 (Kd.R k82 82 w' w.heap.size (fun _ => True) (.slice (some ad360) t357.length co10) t357) ∧ Aside0 (Kd.R (Kd.int .i64) 3 w' w.heap.size (fun _ => True) v5 x5_2) ∧ Aside0 (Below w.heap.size w w'))
        case atStart => exact ⟨(x5_1), (0), rf_, H', ⟨Nat.le_refl _⟩, ⟨nS_ HO_3.out⟩, ⟨nR_ HO_4.out⟩, ⟨nR_ HO_5.out⟩, ⟨bel_⟩⟩
        case round =>
         clear H'
         try clear p2
         try clear p3
         try clear q3
         try clear hx3
         try clear c5
         try clear c7
         try clear c7b0
         try clear c8
         try clear c8b0
         try clear hx360_0
         try clear hx360_1
         try clear hx360_2
         try clear p2
         try clear p360
         try clear q360
         obtain ⟨x5_2, x10_2, rfl, HA, HK2, HO_3, HO_4, HO_5, HB⟩ := hrel
         cases gk with
         | zero => exact absurd HA.out (by simp [clocheref09_pairing.l1])
         | succ k2 =>
          have H := HA.out
          clear HA
          simp only [clocheref09_pairing.l1] at H
          by_cases c12 : x10_2 < (t357.length : Int)
          · rw [if_pos c12] at H
            have c12b0 : decide (x10_2 < (t357.length : Int)) = true := decide_eq_true c12
            clear c12
            by_cases c13 : 0 ≤ x10_2
            · rw [if_pos c13] at H
              have c13b0 : decide (0 ≤ x10_2) = true := decide_eq_true c13
              clear c13
              by_cases c14 : ((rd_T82 t357 x10_2).f0) = t361
              · rw [if_pos c14] at H
                have c14b0 : (((rd_T82 t357 x10_2).f0) == t361) = true := beq_iff_eq.mpr c14
                have c14b1 : (((rd_T82 t357 x10_2).f0) != t361) = false := bne_eq_false_iff_eq.mpr c14
                clear c14
                by_cases c15 : ((rd_T82 t357 x10_2).f1) = t362
                · rw [if_pos c15] at H
                  have c15b0 : (((rd_T82 t357 x10_2).f1) == t362) = true := beq_iff_eq.mpr c15
                  have c15b1 : (((rd_T82 t357 x10_2).f1) != t362) = false := bne_eq_false_iff_eq.mpr c15
                  clear c15
                  by_cases c16 : (Int.tmod (wrap64 (((rd_T82 t357 x10_2).f2) + 2)) 4) = t363
                  · rw [if_pos c16] at H
                    have c16b0 : ((Int.tmod (wrap64 (((rd_T82 t357 x10_2).f2) + 2)) 4) == t363) = true := beq_iff_eq.mpr c16
                    have c16b1 : ((Int.tmod (wrap64 (((rd_T82 t357 x10_2).f2) + 2)) 4) != t363) = false := bne_eq_false_iff_eq.mpr c16
                    clear c16
                    by_cases c17 : x5_2.length < 17592186044416
                    · rw [if_pos c17] at H
                      have LMc17 := Aside0.mk c17
                      clear c17
                      obtain ⟨y367, hy367⟩ : ∃ y_ : List Int, y_ = (x5_2 ++ [x10_2]) := ⟨_, rfl⟩
                      replace H : (clocheref09_pairing.l1 k2 t354 t357 y367 x6_1 t361 t362 t363 (wrap64 (x10_2 + 1))) = some r := by first | (rw [hy367]; with_reducible exact H) | (have H2_ := (Option.bind_some _ _).symm.trans H; rw [hy367]; with_reducible exact H2_) | (have H2_ := (Option.bind_some _ _).symm.trans H; with_reducible exact H2_) | with_reducible exact H | (rw [hy367]; exact H) | exact H
                      have Ny367 := Aside0.mk hy367
                      clear hy367
                      have H' := Aside0.mk H
                      clear H
                      have p364 : 0 ≤ (x10_2 : Int) := od_
                      have q364 : x10_2 < (t357.length : Int) := od_
                      obtain ⟨ad364, e364, hx364_0, hx364_1, hx364_2⟩ := at_T82 (Kd.R_reads' HO_4.out).2.2 x10_2 p364 q364
                      obtain rfl : ad360 = ad364 := (by injection e364)
                      replace p364 := eq_true p364
                      replace q364 := eq_true q364
                      have p365 : 0 ≤ (x10_2 : Int) := od_
                      have q365 : x10_2 < (t357.length : Int) := od_
                      obtain ⟨ad365, e365, hx365_0, hx365_1, hx365_2⟩ := at_T82 (Kd.R_reads' HO_4.out).2.2 x10_2 p365 q365
                      obtain rfl : ad360 = ad365 := (by injection e365)
                      replace p365 := eq_true p365
                      replace q365 := eq_true q365
                      have p366 : 0 ≤ (x10_2 : Int) := od_
                      have q366 : x10_2 < (t357.length : Int) := od_
                      obtain ⟨ad366, e366, hx366_0, hx366_1, hx366_2⟩ := at_T82 (Kd.R_reads' HO_4.out).2.2 x10_2 p366 q366
                      obtain rfl : ad360 = ad366 := (by injection e366)
                      replace p366 := eq_true p366
                      replace q366 := eq_true q366
                      go_wp2_with (first | ((with_reducible refine gate_builtin (b := .append) (xs := #[.tmp 64, .tmp 66]) rfl ?_); at_builtin; refine Kd.R_append (Kd.int .i64) (w0 := w) w.heap.size rfl (.tmp 64) (.tmp 66) 28 3 (.int .i64 0) 8 rfl Try.underlying28 info3 rfl (by decide) (by omega) u5 x5_2 x10_2 [.int .i64 x10_2] (fun _ => True) (fun _ => False) rfl rfl ?aP (fun _ hk => hk.elim) ?aF ?aO ?aB ?aS ?aL ?_; (case aP => exact rfl); (case aB => exact (bel_)); (case aF => exact (fun _ _ => trivial)); (case aO => exact (nR_ HO_5.out)); (case aS => exact (below_size (bel_))); (case aL => have := LMc17.out; omega); intro v368 w18 ho hb hg hat; rw [← Ny367.out] at ho; have n0_ := Aside0.mk (Kd.S_after (ok := (fun _ => True)) (by (with_reducible repeat (first | apply Kd.S_alloc | apply Kd.S_drewN | apply Kd.S_drew)); exact Kd.S_mono HO_3.out (fun _ hk => ⟨trivial, hk⟩)) hg hat); have n1_ := Aside0.mk (Kd.R_over' (nR_ HO_4.out) (Kd.R_typed (nR_ HO_5.out)) (by decide) hg); have n2_ := Aside0.mk (hb); have n3_ := Aside0.mk (ho); clear HO_3; clear HO_4; clear HB; clear HO_5; have HO_3 := n0_; have HO_4 := n1_; have HB := n2_; have HO369 := n3_; clear n0_ n1_ n2_ n3_; clear ho hb hg hat))
                      go_roundg k2
                      case measure => have := HK1.out; have := HK2.out; omega
                      case rel => exact ⟨(y367), (wrap64 (x10_2 + 1)), rf_, H', ⟨by have := HK1.out; have := HK2.out; omega⟩, ⟨by (with_reducible repeat (first | apply Kd.S_alloc | apply Kd.S_drewN | apply Kd.S_drew)); exact Kd.S_mono HO_3.out (fun _ hk => hk.2)⟩, ⟨nR_ HO_4.out⟩, ⟨nR_ HO369.out⟩, ⟨bel_⟩⟩
                    · rw [if_neg c17] at H
                      exact absurd H (by simp)
                  · rw [if_neg c16] at H
                    have c16b0 : ((Int.tmod (wrap64 (((rd_T82 t357 x10_2).f2) + 2)) 4) == t363) = false := beq_eq_false_iff_ne.mpr c16
                    have c16b1 : ((Int.tmod (wrap64 (((rd_T82 t357 x10_2).f2) + 2)) 4) != t363) = true := bne_iff_ne.mpr c16
                    have H' := Aside0.mk H
                    clear H
                    have p364 : 0 ≤ (x10_2 : Int) := od_
                    have q364 : x10_2 < (t357.length : Int) := od_
                    obtain ⟨ad364, e364, hx364_0, hx364_1, hx364_2⟩ := at_T82 (Kd.R_reads' HO_4.out).2.2 x10_2 p364 q364
                    obtain rfl : ad360 = ad364 := (by injection e364)
                    replace p364 := eq_true p364
                    replace q364 := eq_true q364
                    have p365 : 0 ≤ (x10_2 : Int) := od_
                    have q365 : x10_2 < (t357.length : Int) := od_
                    obtain ⟨ad365, e365, hx365_0, hx365_1, hx365_2⟩ := at_T82 (Kd.R_reads' HO_4.out).2.2 x10_2 p365 q365
                    obtain rfl : ad360 = ad365 := (by injection e365)
                    replace p365 := eq_true p365
                    replace q365 := eq_true q365
                    have p366 : 0 ≤ (x10_2 : Int) := od_
                    have q366 : x10_2 < (t357.length : Int) := od_
                    obtain ⟨ad366, e366, hx366_0, hx366_1, hx366_2⟩ := at_T82 (Kd.R_reads' HO_4.out).2.2 x10_2 p366 q366
                    obtain rfl : ad360 = ad366 := (by injection e366)
                    replace p366 := eq_true p366
                    replace q366 := eq_true q366
                    go_wp2
                    go_roundg k2
                    case measure => have := HK1.out; have := HK2.out; omega
                    case rel => exact ⟨(x5_2), (wrap64 (x10_2 + 1)), rf_, H', ⟨by have := HK1.out; have := HK2.out; omega⟩, ⟨nS_ HO_3.out⟩, ⟨nR_ HO_4.out⟩, ⟨nR_ HO_5.out⟩, ⟨bel_⟩⟩
                · rw [if_neg c15] at H
                  have c15b0 : (((rd_T82 t357 x10_2).f1) == t362) = false := beq_eq_false_iff_ne.mpr c15
                  have c15b1 : (((rd_T82 t357 x10_2).f1) != t362) = true := bne_iff_ne.mpr c15
                  have H' := Aside0.mk H
                  clear H
                  have p364 : 0 ≤ (x10_2 : Int) := od_
                  have q364 : x10_2 < (t357.length : Int) := od_
                  obtain ⟨ad364, e364, hx364_0, hx364_1, hx364_2⟩ := at_T82 (Kd.R_reads' HO_4.out).2.2 x10_2 p364 q364
                  obtain rfl : ad360 = ad364 := (by injection e364)
                  replace p364 := eq_true p364
                  replace q364 := eq_true q364
                  have p365 : 0 ≤ (x10_2 : Int) := od_
                  have q365 : x10_2 < (t357.length : Int) := od_
                  obtain ⟨ad365, e365, hx365_0, hx365_1, hx365_2⟩ := at_T82 (Kd.R_reads' HO_4.out).2.2 x10_2 p365 q365
                  obtain rfl : ad360 = ad365 := (by injection e365)
                  replace p365 := eq_true p365
                  replace q365 := eq_true q365
                  go_wp2
                  go_roundg k2
                  case measure => have := HK1.out; have := HK2.out; omega
                  case rel => exact ⟨(x5_2), (wrap64 (x10_2 + 1)), rf_, H', ⟨by have := HK1.out; have := HK2.out; omega⟩, ⟨nS_ HO_3.out⟩, ⟨nR_ HO_4.out⟩, ⟨nR_ HO_5.out⟩, ⟨bel_⟩⟩
              · rw [if_neg c14] at H
                have c14b0 : (((rd_T82 t357 x10_2).f0) == t361) = false := beq_eq_false_iff_ne.mpr c14
                have c14b1 : (((rd_T82 t357 x10_2).f0) != t361) = true := bne_iff_ne.mpr c14
                have H' := Aside0.mk H
                clear H
                have p364 : 0 ≤ (x10_2 : Int) := od_
                have q364 : x10_2 < (t357.length : Int) := od_
                obtain ⟨ad364, e364, hx364_0, hx364_1, hx364_2⟩ := at_T82 (Kd.R_reads' HO_4.out).2.2 x10_2 p364 q364
                obtain rfl : ad360 = ad364 := (by injection e364)
                replace p364 := eq_true p364
                replace q364 := eq_true q364
                go_wp2
                go_roundg k2
                case measure => have := HK1.out; have := HK2.out; omega
                case rel => exact ⟨(x5_2), (wrap64 (x10_2 + 1)), rf_, H', ⟨by have := HK1.out; have := HK2.out; omega⟩, ⟨nS_ HO_3.out⟩, ⟨nR_ HO_4.out⟩, ⟨nR_ HO_5.out⟩, ⟨bel_⟩⟩
            · rw [if_neg c13] at H
              exact absurd H (by simp)
          · rw [if_neg c12] at H
            have c12b0 : decide (x10_2 < (t357.length : Int)) = false := decide_eq_false c12
            clear c12
            have H' := Aside0.mk H
            clear H
            go_wp2
            go_roundg k2
            case measure => have := HK1.out; have := HK2.out; omega
            case rel => exact ⟨(x5_2), (wrap64 (x6_1 + 1)), rf_, H', ⟨by have := HK1.out; have := HK2.out; omega⟩, ⟨nS_ HO_3.out⟩, ⟨nR_ HO_4.out⟩, ⟨nR_ HO_5.out⟩, ⟨bel_⟩⟩
      · rw [if_neg c8] at H
        exact absurd H (by simp)
    · rw [if_neg c7] at H
      have c7b0 : decide (x6_1 < (t357.length : Int)) = false := decide_eq_false c7
      clear c7
      obtain rfl := Option.some.inj H
      obtain ⟨Ao19, co19, eo19⟩ := Kd.R_slice HO_4.out
      subst eo19
      go_wp2
      go_ret
      exact ⟨_, er_, by (with_reducible repeat (first | apply Kd.R_alloc | apply Kd.R_drewN | apply Kd.R_drew)); exact HO_5.out, bel_⟩

end Go.Proofs.Ytdinepghommchaa.V

-- Written by a program of this session over the kit's printer: wip/gp.py.
namespace Go.Proofs.Ytdinepghommchaa.V
open Go.RowKit Go.Proofs.YtdinepghommchaaW.PrintWords Go.Proofs.YtdinepghommchaaW.PrintLast Go.Proofs.YtdinepghommchaaW.PrintMore
attribute [local go_sem] max2_int min2_int max_two min_two max_three min_three max_four min_four   -- for this text's walks alone
set_option linter.unusedVariables false
set_option linter.unusedSimpArgs false

/-! ### clocheref09_Count: function 25 -/
mutual
def clocheref09_Count.l0 : Nat → List Int → List (List (List Int)) → Int → Int → Option (Int × Int)
 | 0, _, _, _, _ => none
 | k + 1, x0, x4, x5, x6 => if x6 < (x4.length : Int) then (if 0 ≤ x6 then ((clocheref09_pairing.f k (rd_L2 x4 x6)).bind fun t389 => (clocheref09_Count.l1 k x0 x4 x5 x6 t389 ((t389.length : Int) == (x0.length : Int)) 0)) else (none)) else (some (x5, 0))
def clocheref09_Count.l1 : Nat → List Int → List (List (List Int)) → Int → Int → List Int → Bool → Int → Option (Int × Int)
 | 0, _, _, _, _, _, _, _ => none
 | k + 1, x0, x4, x5, x6, x7, x8, x9 => if x9 < (x7.length : Int) then (if x8 = true then (if 0 ≤ x9 then (if x9 < (x0.length : Int) then (clocheref09_Count.l1 k x0 x4 x5 x6 x7 ((rd x7 x9) == (rd x0 x9)) (wrap64 (x9 + 1))) else (none)) else (none)) else (clocheref09_Count.l0 k x0 x4 x5 (wrap64 (x6 + 1)))) else (if x8 = true then (clocheref09_Count.l0 k x0 x4 (wrap64 (x5 + 1)) (wrap64 (x6 + 1))) else (clocheref09_Count.l0 k x0 x4 x5 (wrap64 (x6 + 1))))
end
def clocheref09_Count.f (k : Nat) (l0 : List Int) : Option (Int × Int) := (clocheref09_IsPairing.f k l0).bind fun t381 => (if t381 = true then ((clocheref09_zeros.f k (wrap64 ((l0.length : Int) / 2))).bind fun t382 => ((clocheref09_fill.f k t382 0 ([] : List (List (List Int)))).bind fun t385 => (clocheref09_Count.l0 k l0 t385 0 0))) else (some (0, 2)))
set_option maxHeartbeats 8000000 in
set_option maxRecDepth 100000 in
theorem clocheref09_Count.calls (k : Nat) (A0 : Option Addr) (c0 : Nat) (l0 : List Int) (r1 : Int) (r2 : Int) (w : World) (hr0 : Kd.C (Kd.int .i64) w A0 l0.length l0) (hc0 : l0.length ≤ c0) (h : clocheref09_Count.f k l0 = some (r1, r2)) :
 Calls Try.prog 25 #[.slice A0 l0.length c0] w fun e w' => e = .returned (.tuple #[.int .i64 r1, .int .i64 r2]) ∧ Below w.heap.size w w' := by
 have HR0 := Aside0.mk hr0
 have HC0 := Aside0.mk hc0
 clear hr0 hc0
 have HB := Aside0.mk (Below.refl w.heap.size w)
 have H : ((clocheref09_IsPairing.f k l0).bind fun t381 => (if t381 = true then ((clocheref09_zeros.f k (wrap64 ((l0.length : Int) / 2))).bind fun t382 => ((clocheref09_fill.f k t382 0 ([] : List (List (List Int)))).bind fun t385 => (clocheref09_Count.l0 k l0 t385 0 0))) else (some (0, 2)))) = some (r1, r2) := h
 clear h
 replace H := Option.bind_eq_some_iff.mp H
 obtain ⟨t381, A20, H⟩ := H
 replace H : (if t381 = true then ((clocheref09_zeros.f k (wrap64 ((l0.length : Int) / 2))).bind fun t382 => ((clocheref09_fill.f k t382 0 ([] : List (List (List Int)))).bind fun t385 => (clocheref09_Count.l0 k l0 t385 0 0))) else (some (0, 2))) = some (r1, r2) := H
 have A2 := Aside0.mk A20
 clear A20
 by_cases c3 : t381 = true
 · subst c3
   have H1 : ((clocheref09_zeros.f k (wrap64 ((l0.length : Int) / 2))).bind fun t382 => ((clocheref09_fill.f k t382 0 ([] : List (List (List Int)))).bind fun t385 => (clocheref09_Count.l0 k l0 t385 0 0))) = some (r1, r2) := by rw [if_pos rfl] at H; exact H
   clear H
   have H := H1
   clear H1
   replace H := Option.bind_eq_some_iff.mp H
   obtain ⟨t382, A40, H⟩ := H
   replace H : ((clocheref09_fill.f k t382 0 ([] : List (List (List Int)))).bind fun t385 => (clocheref09_Count.l0 k l0 t385 0 0)) = some (r1, r2) := H
   have A4 := Aside0.mk A40
   clear A40
   replace H := Option.bind_eq_some_iff.mp H
   obtain ⟨t385, A50, H⟩ := H
   replace H : (clocheref09_Count.l0 k l0 t385 0 0) = some (r1, r2) := H
   have A5 := Aside0.mk A50
   clear A50
   have H' := Aside0.mk H
   clear H
   go_enter Try.func25, Try.ntmps25
   go_wp2_with (first | (go_at_call 26; (with_reducible refine (clocheref09_IsPairing.calls k _ _ l0 true _ ?side1 ?side2 A2.out).mono ?_); (case side1 => repeat (first | exact HR0.out | (with_reducible refine Kd.C_alloc ?_ _) | (with_reducible refine Kd.C_drewN ?_ _) | (with_reducible refine Kd.C_drew ?_))); (case side2 => exact HC0.out); rintro e w' ⟨rfl, ⟨nd, rfl⟩⟩; (try first | exact ⟨rfl, _, World.drewN_drewN _ _ _⟩ | exact ⟨rfl, _, Eq.trans (World.drewN_drewN _ _ _) (congrArg (World.drewN _) (Nat.add_assoc _ _ _))⟩)) | (go_at_call 40; (with_reducible refine (clocheref09_zeros.calls k (wrap64 ((l0.length : Int) / 2)) t382 _ A4.out).mono ?_); rintro e w6 ⟨v383, rfl, ho0, hb⟩; have n0_ := Aside0.mk (Kd.S_lower ho0 (below_size (bel_))); have n1_ := Aside0.mk (below_step (bel_) hb); clear HB; have HO384 := n0_; have HB := n1_; clear n0_ n1_; (try clear hb); (try clear hb2); (try clear hk); (try clear hi); (try clear ho0); obtain ⟨Ao7, co7, eo7⟩ := Kd.S_slice HO384.out; subst eo7) | (go_at_call 39; (refine (clocheref09_fill.own k w.heap.size _ _ t382 t385 _ ?side1 ?side2 A5.out).mono ?_); (case side1 => exact Kd.S_mono HO384.out (fun _ _ => trivial)); (case side2 => exact HB.out.size); rintro e w8 ⟨v386, rfl, ho0, hb⟩; have n1_ := Aside0.mk (Kd.R_lower ho0 HB.out.size); have n2_ := Aside0.mk (HB.out.trans (hb.below0 HB.out.size)); clear HO384; clear HB; have HO387 := n1_; have HB := n2_; clear n1_ n2_; (try clear hb); (try clear hb2); (try clear hk); (try clear hi); (try clear ho0)))
   repeat (go_quiet (fail); try go_wp2)
   go_loopg [5, 6] k (fun kq v5 v6 w' => ∃ (x5_1 : Int) (x6_1 : Int), v5 = .int .i64 x5_1 ∧ v6 = .int .i64 x6_1 ∧ Aside0 (clocheref09_Count.l0 kq l0 t385 x5_1 x6_1 = some (r1, r2)) ∧ Aside0 (kq ≤ k) ∧ Aside0 (Kd.R (Kd.slice 28 (Kd.slice 3 (Kd.int .i64))) 27 w' w.heap.size (fun _ => True) v386 t385) ∧ Aside0 (Below w.heap.size w w'))
   case atStart => exact ⟨(0), (0), rf_, rf_, H', ⟨Nat.le_refl _⟩, ⟨by (with_reducible repeat (first | apply Kd.R_alloc | apply Kd.R_drewN | apply Kd.R_drew)); exact Kd.R_mono HO387.out (fun _ hk => trivial)⟩, ⟨bel_⟩⟩
   case round =>
    clear H'
    try clear c2
    try clear p2
    try clear c3
    try clear p6
    obtain ⟨x5_1, x6_1, rfl, rfl, HA, HK1, HO_4, HB⟩ := hrel
    cases gk with
    | zero => exact absurd HA.out (by simp [clocheref09_Count.l0])
    | succ k1 =>
     have H := HA.out
     clear HA
     simp only [clocheref09_Count.l0] at H
     by_cases c9 : x6_1 < (t385.length : Int)
     · rw [if_pos c9] at H
       have c9b0 : decide (x6_1 < (t385.length : Int)) = true := decide_eq_true c9
       clear c9
       by_cases c10 : 0 ≤ x6_1
       · rw [if_pos c10] at H
         have c10b0 : decide (0 ≤ x6_1) = true := decide_eq_true c10
         clear c10
         replace H := Option.bind_eq_some_iff.mp H
         obtain ⟨t389, A110, H⟩ := H
         replace H : (clocheref09_Count.l1 k1 l0 t385 x5_1 x6_1 t389 ((t389.length : Int) == (l0.length : Int)) 0) = some (r1, r2) := H
         have A11 := Aside0.mk A110
         clear A110
         have H' := Aside0.mk H
         clear H
         obtain ⟨Ao12, co12, eo12⟩ := Kd.R_slice HO_4.out
         subst eo12
         have p388 : 0 ≤ (x6_1 : Int) := od_
         have q388 : x6_1 < (t385.length : Int) := od_
         obtain ⟨ad388, A388_0, c388_0, e388, hx388_0, hl388_0, hi388_0⟩ := at_L2 (Kd.R_reads' HO_4.out).2.2 x6_1 p388 q388
         cases e388
         obtain ⟨ce388, hce388, hMe388, hcc388⟩ := Kd.R_get HO_4.out [] x6_1 p388 (by first | exact q388 | exact od_ | (have e_ := (Kd.R_reads' HO_4.out).1; omega))
         obtain ⟨ve388_0, rfl, ge388_0⟩ := hMe388
         have hv388_0 := hcc388 0 _ rfl
         rw [Nat.add_zero, show ((Kd.slice 28 (Kd.slice 3 (Kd.int .i64)))).sz = 1 from rfl, Nat.mul_one] at hv388_0
         replace hv388_0 := Option.some.inj (hv388_0.symm.trans hx388_0)
         rw [hv388_0] at ge388_0
         have HL388_0 := Aside0.mk (show Kd.R (Kd.slice 3 (Kd.int .i64)) 28 _ _ _ _ (rd_L2 t385 x6_1) from ge388_0)
         clear hv388_0 ge388_0
         clear hcc388 hce388
         have HR388_0 := Aside0.mk hi388_0
         have HC388_0 := Aside0.mk hl388_0
         clear hi388_0 hl388_0
         replace p388 := eq_true p388
         replace q388 := eq_true q388
         go_wp2_with (first | (go_at_call 52; (with_reducible refine (clocheref09_pairing.calls k1 _ _ (rd_L2 t385 x6_1) t389 _ ?side1 ?side2 A11.out).mono ?_); (case side1 => repeat (first | exact (by repeat (first | (with_reducible exact HR388_0.out) | (with_reducible refine Kd.C_alloc ?_ _) | (with_reducible refine Kd.C_drewN ?_ _) | (with_reducible refine Kd.C_drew ?_) | exact HR388_0.out)) | (with_reducible refine Kd.C_alloc ?_ _) | (with_reducible refine Kd.C_drewN ?_ _) | (with_reducible refine Kd.C_drew ?_))); (case side2 => exact HC388_0.out); rintro e w13 ⟨v390, rfl, ho0, hb⟩; have n0_ := Aside0.mk (Kd.R_elder' (nR_ HO_4.out) (Kd.R_base ho0) hb); have n1_ := Aside0.mk (Kd.R_elder' (nR_ HL388_0.out) (Kd.R_base ho0) hb); have n2_ := Aside0.mk (Kd.R_lower ho0 (below_size (bel_))); have n3_ := Aside0.mk (Kd.C_below (by repeat (first | (with_reducible exact HR388_0.out) | (with_reducible refine Kd.C_alloc ?_ _) | (with_reducible refine Kd.C_drewN ?_ _) | (with_reducible refine Kd.C_drew ?_) | exact HR388_0.out)) hb); have n4_ := Aside0.mk (below_step (bel_) hb); clear HO_4; clear HL388_0; clear HR388_0; clear HB; have HO_4 := n0_; have HL388_0 := n1_; have HO391 := n2_; have HR388_0 := n3_; have HB := n4_; clear n0_ n1_ n2_ n3_ n4_; (try clear hb); (try clear hb2); (try clear hk); (try clear hi); (try clear ho0); obtain ⟨Ao14, co14, eo14⟩ := Kd.R_slice HO391.out; subst eo14))
         repeat (go_quiet (fail); try go_wp2)
         go_loopg [8, 9] k1 (fun kq v8 v9 w' => ∃ (x8_2 : Bool) (x9_2 : Int), v8 = .bool x8_2 ∧ v9 = .int .i64 x9_2 ∧ Aside0 (clocheref09_Count.l1 kq l0 t385 x5_1 x6_1 t389 x8_2 x9_2 = some (r1, r2)) ∧ Aside0 (kq ≤ k1) ∧ Aside0 (Kd.R (Kd.slice 28 (Kd.slice 3 (Kd.int .i64))) 27 w' w.heap.size (fun k_ => some k_ ≠ ((.slice Ao14 t389.length co14) : Value).ownBlock) (.slice (some ad388) t385.length co12) t385) ∧ Aside0 (Kd.R (Kd.int .i64) 3 w' w.heap.size (fun _ => True) (.slice Ao14 t389.length co14) t389) ∧ Aside0 (Kd.C (Kd.slice 3 (Kd.int .i64)) w' A388_0 (rd_L2 t385 x6_1).length (rd_L2 t385 x6_1)) ∧ Aside0 (Below w.heap.size w w'))
         case atStart => exact ⟨(((t389.length : Int) == (l0.length : Int))), (0), rf_, rf_, H', ⟨Nat.le_refl _⟩, ⟨by (with_reducible repeat (first | apply Kd.R_alloc | apply Kd.R_drewN | apply Kd.R_drew)); exact Kd.R_mono HO_4.out (fun _ hk => hk.2)⟩, ⟨nR_ HO391.out⟩, ⟨by repeat (first | (with_reducible exact HR388_0.out) | (with_reducible refine Kd.C_alloc ?_ _) | (with_reducible refine Kd.C_drewN ?_ _) | (with_reducible refine Kd.C_drew ?_) | exact HR388_0.out)⟩, ⟨bel_⟩⟩
         case round =>
          clear H'
          try clear c1
          try clear c2
          try clear p2
          try clear c3
          try clear p3
          try clear q3
          try clear hx3
          try clear p6
          try clear c9
          try clear c9b0
          try clear c10
          try clear c10b0
          try clear hx388_0
          try clear p2
          try clear p388
          try clear p6
          try clear q388
          obtain ⟨x8_2, x9_2, rfl, rfl, HA, HK2, HO_4, HO_7, HR388_0, HB⟩ := hrel
          cases gk with
          | zero => exact absurd HA.out (by simp [clocheref09_Count.l1])
          | succ k2 =>
           have H := HA.out
           clear HA
           simp only [clocheref09_Count.l1] at H
           by_cases c15 : x9_2 < (t389.length : Int)
           · rw [if_pos c15] at H
             have c15b0 : decide (x9_2 < (t389.length : Int)) = true := decide_eq_true c15
             clear c15
             by_cases c16 : x8_2 = true
             · subst c16
               have H1 : (if 0 ≤ x9_2 then (if x9_2 < (l0.length : Int) then (clocheref09_Count.l1 k2 l0 t385 x5_1 x6_1 t389 ((rd t389 x9_2) == (rd l0 x9_2)) (wrap64 (x9_2 + 1))) else (none)) else (none)) = some (r1, r2) := by rw [if_pos rfl] at H; exact H
               clear H
               have H := H1
               clear H1
               by_cases c17 : 0 ≤ x9_2
               · rw [if_pos c17] at H
                 have c17b0 : decide (0 ≤ x9_2) = true := decide_eq_true c17
                 clear c17
                 by_cases c18 : x9_2 < (l0.length : Int)
                 · rw [if_pos c18] at H
                   have c18b0 : decide (x9_2 < (l0.length : Int)) = true := decide_eq_true c18
                   clear c18
                   have H' := Aside0.mk H
                   clear H
                   have p392 : 0 ≤ (x9_2 : Int) := od_
                   have q392 : x9_2 < (t389.length : Int) := od_
                   obtain ⟨ad392, e392, hx392_0⟩ := Kd.at_int (Kd.R_reads' HO_7.out).2.2 x9_2 p392 q392
                   cases e392
                   replace p392 := eq_true p392
                   replace q392 := eq_true q392
                   obtain ⟨ad393, e393, hx393_0, p393, q393⟩ := ai_ HR0.out x9_2
                   cases e393
                   replace hx393_0 := (HB.out.cell (World.block_lt_of_cell? w _ hx393_0)).trans hx393_0
                   go_wp2
                   repeat (go_quiet (fail); try go_wp2)
                   go_roundg k2
                   case measure => have := HK1.out; have := HK2.out; omega
                   case rel => exact ⟨(((rd t389 x9_2) == (rd l0 x9_2))), (wrap64 (x9_2 + 1)), rf_, rf_, H', ⟨by have := HK1.out; have := HK2.out; omega⟩, ⟨nR_ HO_4.out⟩, ⟨nR_ HO_7.out⟩, ⟨by repeat (first | (with_reducible exact HR388_0.out) | (with_reducible refine Kd.C_alloc ?_ _) | (with_reducible refine Kd.C_drewN ?_ _) | (with_reducible refine Kd.C_drew ?_) | exact HR388_0.out)⟩, ⟨bel_⟩⟩
                 · rw [if_neg c18] at H
                   exact absurd H (by simp)
               · rw [if_neg c17] at H
                 exact absurd H (by simp)
             · replace c16 := Bool.eq_false_iff.mpr c16
               subst c16
               have H1 : (clocheref09_Count.l0 k2 l0 t385 x5_1 (wrap64 (x6_1 + 1))) = some (r1, r2) := by rw [if_neg (show ¬ (false = true) by decide)] at H; exact H
               clear H
               have H := H1
               clear H1
               have H' := Aside0.mk H
               clear H
               go_wp2
               repeat (go_quiet (fail); try go_wp2)
               go_roundg k2
               case measure => have := HK1.out; have := HK2.out; omega
               case rel => exact ⟨(x5_1), (wrap64 (x6_1 + 1)), rf_, rf_, H', ⟨by have := HK1.out; have := HK2.out; omega⟩, ⟨by (with_reducible repeat (first | apply Kd.R_alloc | apply Kd.R_drewN | apply Kd.R_drew)); exact Kd.R_mono HO_4.out (fun _ hk => trivial)⟩, ⟨bel_⟩⟩
           · rw [if_neg c15] at H
             have c15b0 : decide (x9_2 < (t389.length : Int)) = false := decide_eq_false c15
             clear c15
             by_cases c19 : x8_2 = true
             · subst c19
               have H1 : (clocheref09_Count.l0 k2 l0 t385 (wrap64 (x5_1 + 1)) (wrap64 (x6_1 + 1))) = some (r1, r2) := by rw [if_pos rfl] at H; exact H
               clear H
               have H := H1
               clear H1
               have H' := Aside0.mk H
               clear H
               go_wp2
               repeat (go_quiet (fail); try go_wp2)
               go_roundg k2
               case measure => have := HK1.out; have := HK2.out; omega
               case rel => exact ⟨(wrap64 (x5_1 + 1)), (wrap64 (x6_1 + 1)), rf_, rf_, H', ⟨by have := HK1.out; have := HK2.out; omega⟩, ⟨by (with_reducible repeat (first | apply Kd.R_alloc | apply Kd.R_drewN | apply Kd.R_drew)); exact Kd.R_mono HO_4.out (fun _ hk => trivial)⟩, ⟨bel_⟩⟩
             · replace c19 := Bool.eq_false_iff.mpr c19
               subst c19
               have H1 : (clocheref09_Count.l0 k2 l0 t385 x5_1 (wrap64 (x6_1 + 1))) = some (r1, r2) := by rw [if_neg (show ¬ (false = true) by decide)] at H; exact H
               clear H
               have H := H1
               clear H1
               have H' := Aside0.mk H
               clear H
               go_wp2
               repeat (go_quiet (fail); try go_wp2)
               go_roundg k2
               case measure => have := HK1.out; have := HK2.out; omega
               case rel => exact ⟨(x5_1), (wrap64 (x6_1 + 1)), rf_, rf_, H', ⟨by have := HK1.out; have := HK2.out; omega⟩, ⟨by (with_reducible repeat (first | apply Kd.R_alloc | apply Kd.R_drewN | apply Kd.R_drew)); exact Kd.R_mono HO_4.out (fun _ hk => trivial)⟩, ⟨bel_⟩⟩
       · rw [if_neg c10] at H
         exact absurd H (by simp)
     · rw [if_neg c9] at H
       have c9b0 : decide (x6_1 < (t385.length : Int)) = false := decide_eq_false c9
       clear c9
       simp only [Option.some.injEq, Prod.mk.injEq] at H
       obtain ⟨rfl, rfl⟩ := H
       obtain ⟨Ao20, co20, eo20⟩ := Kd.R_slice HO_4.out
       subst eo20
       go_wp2
       repeat (go_quiet (fail); try go_wp2)
       go_ret2
       exact ⟨er_, bel_⟩
 · replace c3 := Bool.eq_false_iff.mpr c3
   subst c3
   have H1 : (some (0, 2)) = some (r1, r2) := by rw [if_neg (show ¬ (false = true) by decide)] at H; exact H
   clear H
   have H := H1
   clear H1
   simp only [Option.some.injEq, Prod.mk.injEq] at H
   obtain ⟨rfl, rfl⟩ := H
   go_enter Try.func25, Try.ntmps25
   go_wp2_with (first | (go_at_call 26; (with_reducible refine (clocheref09_IsPairing.calls k _ _ l0 false _ ?side1 ?side2 A2.out).mono ?_); (case side1 => repeat (first | exact HR0.out | (with_reducible refine Kd.C_alloc ?_ _) | (with_reducible refine Kd.C_drewN ?_ _) | (with_reducible refine Kd.C_drew ?_))); (case side2 => exact HC0.out); rintro e w' ⟨rfl, ⟨nd, rfl⟩⟩; (try first | exact ⟨rfl, _, World.drewN_drewN _ _ _⟩ | exact ⟨rfl, _, Eq.trans (World.drewN_drewN _ _ _) (congrArg (World.drewN _) (Nat.add_assoc _ _ _))⟩)))
   repeat (go_quiet (fail); try go_wp2)
   go_ret2
   exact ⟨er_, bel_⟩

end Go.Proofs.Ytdinepghommchaa.V
