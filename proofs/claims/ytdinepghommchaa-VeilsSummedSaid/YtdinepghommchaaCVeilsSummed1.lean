/- The walks and the pure laws under the claim of VeilsSummed, part: Vf46, Vf16, Vg16, Vf4, PureSummed. -/
import Derived.Test.YtdinepghommchaaCb1
import Derived.Test.YtdinepghommchaaCb3
import Derived.Test.YtdinepghommchaaCb2
import Derived.Test.YtdinepghommchaaCb8
-- Written by a program of this session over the kit's printer: wip/gp.py.
namespace Go.Proofs.Ytdinepghommchaa.V
open Go.RowKit Go.Proofs.YtdinepghommchaaW.PrintWords Go.Proofs.YtdinepghommchaaW.PrintLast Go.Proofs.YtdinepghommchaaW.PrintMore
attribute [local go_sem] max2_int min2_int max_two min_two max_three min_three max_four min_four   -- for this text's walks alone
set_option linter.unusedVariables false
set_option linter.unusedSimpArgs false

/-! ### clochelaw09_crossing: function 46 -/
mutual
def clochelaw09_crossing.l0 : Nat → List Int → Int → Option (Bool)
 | 0, _, _ => none
 | k + 1, x0, x3 => if x3 < (x0.length : Int) then (clochelaw09_crossing.l1 k x0 x3 (wrap64 (x3 + 1))) else (some false)
def clochelaw09_crossing.l1 : Nat → List Int → Int → Int → Option (Bool)
 | 0, _, _, _ => none
 | k + 1, x0, x3, x4 => if 0 ≤ x3 then (if x3 < (x0.length : Int) then (if x4 < (rd x0 x3) then (if 0 ≤ x4 then (if x4 < (x0.length : Int) then (if (rd x0 x4) ≥ 0 then (if (rd x0 x4) > (rd x0 x3) then (some true) else (if (rd x0 x4) < x3 then (some true) else (clochelaw09_crossing.l1 k x0 x3 (wrap64 (x4 + 1))))) else (clochelaw09_crossing.l1 k x0 x3 (wrap64 (x4 + 1)))) else (none)) else (none)) else (clochelaw09_crossing.l0 k x0 (wrap64 (x3 + 1)))) else (none)) else (none)
end
def clochelaw09_crossing.f (k : Nat) (l0 : List Int) : Option (Bool) := clochelaw09_crossing.l0 k l0 0
set_option maxHeartbeats 8000000 in
set_option maxRecDepth 100000 in
theorem clochelaw09_crossing.calls (k : Nat) (A0 : Option Addr) (c0 : Nat) (l0 : List Int) (r : Bool) (w : World) (hr0 : Kd.C (Kd.int .i64) w A0 l0.length l0) (hc0 : l0.length ≤ c0) (h : clochelaw09_crossing.f k l0 = some r) :
 Calls Try.prog 46 #[.slice A0 l0.length c0] w fun e w' => e = .returned (.bool r) ∧ Drawn0 w w' := by
 have HR0 := Aside0.mk hr0
 have HC0 := Aside0.mk hc0
 clear hr0 hc0
 have H : (clochelaw09_crossing.l0 k l0 0) = some r := h
 clear h
 have H' := Aside0.mk H
 clear H
 go_enter Try.func46, Try.ntmps46
 go_wp2
 repeat (go_quiet (fail); try go_wp2)
 go_loopg [3] k (fun kq v3 w' => ∃ (x3_1 : Int), v3 = .int .i64 x3_1 ∧ Aside0 (clochelaw09_crossing.l0 kq l0 x3_1 = some r) ∧ Aside0 (kq ≤ k) ∧ Drawn0 w w')
 case atStart => exact ⟨(0), rf_, H', ⟨Nat.le_refl _⟩, dr_⟩
 case round =>
  clear H'
  obtain ⟨x3_1, rfl, HA, HK1, ⟨m1, rfl⟩⟩ := hrel
  cases gk with
  | zero => exact absurd HA.out (by simp [clochelaw09_crossing.l0])
  | succ k1 =>
   have H := HA.out
   clear HA
   simp only [clochelaw09_crossing.l0] at H
   by_cases c2 : x3_1 < (l0.length : Int)
   · rw [if_pos c2] at H
     have c2b0 : decide (x3_1 < (l0.length : Int)) = true := decide_eq_true c2
     clear c2
     have H' := Aside0.mk H
     clear H
     go_wp2
     repeat (go_quiet (fail); try go_wp2)
     go_loopg [4] k1 (fun kq v4 w' => ∃ (x4_2 : Int), v4 = .int .i64 x4_2 ∧ Aside0 (clochelaw09_crossing.l1 kq l0 x3_1 x4_2 = some r) ∧ Aside0 (kq ≤ k1) ∧ Drawn0 w w')
     case atStart => exact ⟨(wrap64 (x3_1 + 1)), rf_, H', ⟨Nat.le_refl _⟩, dr_⟩
     case round =>
      clear H'
      try clear c2
      try clear c2b0
      try clear p2
      obtain ⟨x4_2, rfl, HA, HK2, ⟨m2, rfl⟩⟩ := hrel
      cases gk with
      | zero => exact absurd HA.out (by simp [clochelaw09_crossing.l1])
      | succ k2 =>
       have H := HA.out
       clear HA
       simp only [clochelaw09_crossing.l1] at H
       by_cases c3 : 0 ≤ x3_1
       · rw [if_pos c3] at H
         have c3b0 : decide (0 ≤ x3_1) = true := decide_eq_true c3
         clear c3
         by_cases c4 : x3_1 < (l0.length : Int)
         · rw [if_pos c4] at H
           have c4b0 : decide (x3_1 < (l0.length : Int)) = true := decide_eq_true c4
           clear c4
           by_cases c5 : x4_2 < (rd l0 x3_1)
           · rw [if_pos c5] at H
             have c5b0 : decide (x4_2 < (rd l0 x3_1)) = true := decide_eq_true c5
             clear c5
             by_cases c6 : 0 ≤ x4_2
             · rw [if_pos c6] at H
               have c6b0 : decide (0 ≤ x4_2) = true := decide_eq_true c6
               clear c6
               by_cases c7 : x4_2 < (l0.length : Int)
               · rw [if_pos c7] at H
                 have c7b0 : decide (x4_2 < (l0.length : Int)) = true := decide_eq_true c7
                 clear c7
                 by_cases c8 : (rd l0 x4_2) ≥ 0
                 · rw [if_pos c8] at H
                   have c8b0 : decide (0 ≤ (rd l0 x4_2)) = true := decide_eq_true c8
                   clear c8
                   by_cases c9 : (rd l0 x4_2) > (rd l0 x3_1)
                   · rw [if_pos c9] at H
                     have c9b0 : decide ((rd l0 x3_1) < (rd l0 x4_2)) = true := decide_eq_true c9
                     clear c9
                     obtain rfl := Option.some.inj H
                     obtain ⟨ad190, e190, hx190_0, p190, q190⟩ := ai_ HR0.out x3_1
                     cases e190
                     obtain ⟨ad191, e191, hx191_0, p191, q191⟩ := ai_ HR0.out x4_2
                     obtain rfl : ad190 = ad191 := (by injection e191)
                     obtain ⟨ad192, e192, hx192_0, p192, q192⟩ := ai_ HR0.out x4_2
                     obtain rfl : ad190 = ad192 := (by injection e192)
                     obtain ⟨ad193, e193, hx193_0, p193, q193⟩ := ai_ HR0.out x3_1
                     obtain rfl : ad190 = ad193 := (by injection e193)
                     go_wp2
                     repeat (go_quiet (fail); try go_wp2)
                     go_ret
                     exact ⟨rf_, dr_⟩
                   · rw [if_neg c9] at H
                     have c9b0 : decide ((rd l0 x3_1) < (rd l0 x4_2)) = false := decide_eq_false c9
                     clear c9
                     by_cases c10 : (rd l0 x4_2) < x3_1
                     · rw [if_pos c10] at H
                       have c10b0 : decide ((rd l0 x4_2) < x3_1) = true := decide_eq_true c10
                       clear c10
                       obtain rfl := Option.some.inj H
                       obtain ⟨ad190, e190, hx190_0, p190, q190⟩ := ai_ HR0.out x3_1
                       cases e190
                       obtain ⟨ad191, e191, hx191_0, p191, q191⟩ := ai_ HR0.out x4_2
                       obtain rfl : ad190 = ad191 := (by injection e191)
                       obtain ⟨ad192, e192, hx192_0, p192, q192⟩ := ai_ HR0.out x4_2
                       obtain rfl : ad190 = ad192 := (by injection e192)
                       obtain ⟨ad193, e193, hx193_0, p193, q193⟩ := ai_ HR0.out x3_1
                       obtain rfl : ad190 = ad193 := (by injection e193)
                       obtain ⟨ad194, e194, hx194_0, p194, q194⟩ := ai_ HR0.out x4_2
                       obtain rfl : ad190 = ad194 := (by injection e194)
                       go_wp2
                       repeat (go_quiet (fail); try go_wp2)
                       go_ret
                       exact ⟨rf_, dr_⟩
                     · rw [if_neg c10] at H
                       have c10b0 : decide ((rd l0 x4_2) < x3_1) = false := decide_eq_false c10
                       clear c10
                       have H' := Aside0.mk H
                       clear H
                       obtain ⟨ad190, e190, hx190_0, p190, q190⟩ := ai_ HR0.out x3_1
                       cases e190
                       obtain ⟨ad191, e191, hx191_0, p191, q191⟩ := ai_ HR0.out x4_2
                       obtain rfl : ad190 = ad191 := (by injection e191)
                       obtain ⟨ad192, e192, hx192_0, p192, q192⟩ := ai_ HR0.out x4_2
                       obtain rfl : ad190 = ad192 := (by injection e192)
                       obtain ⟨ad193, e193, hx193_0, p193, q193⟩ := ai_ HR0.out x3_1
                       obtain rfl : ad190 = ad193 := (by injection e193)
                       obtain ⟨ad194, e194, hx194_0, p194, q194⟩ := ai_ HR0.out x4_2
                       obtain rfl : ad190 = ad194 := (by injection e194)
                       go_wp2
                       repeat (go_quiet (fail); try go_wp2)
                       go_roundg k2
                       case measure => have := HK1.out; have := HK2.out; omega
                       case rel => exact ⟨(wrap64 (x4_2 + 1)), rf_, H', ⟨by have := HK1.out; have := HK2.out; omega⟩, dr_⟩
                 · rw [if_neg c8] at H
                   have c8b0 : decide (0 ≤ (rd l0 x4_2)) = false := decide_eq_false c8
                   clear c8
                   have H' := Aside0.mk H
                   clear H
                   obtain ⟨ad190, e190, hx190_0, p190, q190⟩ := ai_ HR0.out x3_1
                   cases e190
                   obtain ⟨ad191, e191, hx191_0, p191, q191⟩ := ai_ HR0.out x4_2
                   obtain rfl : ad190 = ad191 := (by injection e191)
                   go_wp2
                   repeat (go_quiet (fail); try go_wp2)
                   go_roundg k2
                   case measure => have := HK1.out; have := HK2.out; omega
                   case rel => exact ⟨(wrap64 (x4_2 + 1)), rf_, H', ⟨by have := HK1.out; have := HK2.out; omega⟩, dr_⟩
               · rw [if_neg c7] at H
                 exact absurd H (by simp)
             · rw [if_neg c6] at H
               exact absurd H (by simp)
           · rw [if_neg c5] at H
             have c5b0 : decide (x4_2 < (rd l0 x3_1)) = false := decide_eq_false c5
             clear c5
             have H' := Aside0.mk H
             clear H
             obtain ⟨ad190, e190, hx190_0, p190, q190⟩ := ai_ HR0.out x3_1
             cases e190
             go_wp2
             repeat (go_quiet (fail); try go_wp2)
             go_roundg k2
             case measure => have := HK1.out; have := HK2.out; omega
             case rel => exact ⟨(wrap64 (x3_1 + 1)), rf_, H', ⟨by have := HK1.out; have := HK2.out; omega⟩, dr_⟩
         · rw [if_neg c4] at H
           exact absurd H (by simp)
       · rw [if_neg c3] at H
         exact absurd H (by simp)
   · rw [if_neg c2] at H
     have c2b0 : decide (x3_1 < (l0.length : Int)) = false := decide_eq_false c2
     clear c2
     obtain rfl := Option.some.inj H
     go_wp2
     repeat (go_quiet (fail); try go_wp2)
     go_ret
     exact ⟨rf_, dr_⟩

end Go.Proofs.Ytdinepghommchaa.V

/- The walk of pairings: it goes on with a pairing that does not cross; its list and what it appends to lie in memory of its caller's. -/
namespace Go.Proofs.Ytdinepghommchaa.V
open Go.RowKit Go.Proofs.YtdinepghommchaaW.PrintWords Go.Proofs.YtdinepghommchaaW.PrintLast Go.Proofs.YtdinepghommchaaW.PrintMore
set_option linter.unusedVariables false
set_option linter.unusedSimpArgs false

/-- The list lies between lo and mid, what has been found behind mid. -/
structure Pa (lo mid P cp m : Nat) (W : World) (p : List Int) (vO : Value) (out : List (List Int)) : Prop where
 row : Kd.R (Kd.int .i64) 3 W lo (fun k => lo ≤ k ∧ k < mid) (.slice (some ⟨P, 0, none⟩) m cp) p
 size : mid ≤ W.heap.size
 out : Kd.S (Kd.slice 3 (Kd.int .i64)) 28 W mid (fun k => mid ≤ k) vO out
section
variable {lo mid P cp m : Nat} {W : World} {p : List Int} {vO : Value} {out : List (List Int)}
theorem Pa.len (h : Pa lo mid P cp m W p vO out) : p.length = m := (Kd.R_reads' h.row).1.symm
theorem Pa.drewN (h : Pa lo mid P cp m W p vO out) (n : Nat) : Pa lo mid P cp m (W.drewN n) p vO out := ⟨Kd.R_drewN h.row n, h.size, Kd.S_drewN h.out n⟩
theorem Pa.drew (h : Pa lo mid P cp m W p vO out) : Pa lo mid P cp m W.drew p vO out := ⟨Kd.R_drew h.row, h.size, Kd.S_drew h.out⟩
theorem Pa.head (h : Pa lo mid P cp m W p vO out) : lo ≤ P ∧ P < mid := h.row.1 P rfl
theorem Pa.cell (h : Pa lo mid P cp m W p vO out) (x : Nat) (hx : x < m) : W.cell? ⟨P, x, none⟩ = some (.int .i64 (rd p (x : Int))) ∧ W.frozen? ⟨P, x, none⟩ = false := by
 have := Kd.R_celln (0 : Int) h.row (x : Int) (by omega) (by omega)
 rwa [Int.toNat_natCast] at this
theorem Pa.set (h : Pa lo mid P cp m W p vO out) (x : Nat) (y : Int) : Pa lo mid P cp m (W.setCell ⟨P, x, none⟩ (.int .i64 y)) (p.set x y) vO out := by
 have z := (Kd.R_putg h.row (x : Int) y).1
 rw [Int.toNat_natCast] at z
 have hd := h.head
 have hs := h.size
 exact ⟨z, by simpa [World.setCell] using hs, Kd.S_far h.out (fun k hk => by show k ≠ P; omega) _⟩
end
theorem same_set {lo P x : Nat} {A B : World} (h : Same (fun k => k < lo) A B) (hP : lo ≤ P) (v : Value) : Same (fun k => k < lo) A (B.setCell ⟨P, x, none⟩ v) :=
 h.trans (Same.setCell B ⟨P, x, none⟩ v (fun hk => by dsimp only at hk; omega))

/-- The first end that has no partner yet. -/
def skipTo (p : List Int) : Nat → Nat → Nat
 | 0, x => x
 | d + 1, x => if 0 ≤ rd p (x : Int) then skipTo p d (x + 1) else x
theorem skipTo_spec (p : List Int) : ∀ d x, x ≤ skipTo p d x ∧ skipTo p d x ≤ x + d ∧ (∀ y, x ≤ y → y < skipTo p d x → 0 ≤ rd p (y : Int)) ∧ (skipTo p d x < x + d → rd p ((skipTo p d x : Nat) : Int) < 0)
 | 0, x => ⟨Nat.le_refl _, Nat.le_refl _, fun y a b => absurd b (by simp only [skipTo]; omega), fun h => absurd h (by simp [skipTo])⟩
 | d + 1, x => by
  simp only [skipTo]
  by_cases c : 0 ≤ rd p (x : Int)
  · rw [if_pos c]
    obtain ⟨a, b, e, f⟩ := skipTo_spec p d (x + 1)
    refine ⟨by omega, by omega, fun y h1 h2 => ?_, fun h => f (by omega)⟩
    by_cases ey : y = x
    · subst ey; exact c
    · exact e y (by omega) h2
  · rw [if_neg c]
    exact ⟨Nat.le_refl _, by omega, fun y a b => by omega, fun _ => by omega⟩
abbrev PS := List Int × List (List Int)
def pairTry (rec : Nat → PS → Option PS) (m f : Nat) : Nat → PS → Option PS
 | 0, z => some z
 | d + 1, z =>
  if 0 ≤ rd z.1 ((m - (d + 1) : Nat) : Int) then pairTry rec m f d z
  else (clochelaw09_crossing.f 1000 ((z.1.set f ((m - (d + 1) : Nat) : Int)).set (m - (d + 1)) (f : Int))).bind fun c =>
    if c = true then pairTry rec m f d ((((z.1.set f ((m - (d + 1) : Nat) : Int)).set (m - (d + 1)) (f : Int)).set f (-1)).set (m - (d + 1)) (-1), z.2)
    else (rec (f + 1) ((z.1.set f ((m - (d + 1) : Nat) : Int)).set (m - (d + 1)) (f : Int), z.2)).bind fun y => pairTry rec m f d ((y.1.set f (-1)).set (m - (d + 1)) (-1), y.2)
def pairF (m : Nat) : Nat → Nat → PS → Option PS
 | 0, _, _ => none
 | k + 1, x, z =>
  if skipTo z.1 (m - x) x = m then (if z.1.length < 17592186044416 ∧ z.2.length < 5864062014805 then some (z.1, z.2 ++ [z.1]) else none)
  else pairTry (pairF m k) m (skipTo z.1 (m - x) x) (m - (skipTo z.1 (m - x) x + 1)) z

set_option maxHeartbeats 4000000 in
set_option maxRecDepth 100000 in
theorem pair_end {lo mid P cp m : Nat} (hm : m ≤ 1000) (hlm : lo ≤ mid) (p : List Int) (out : List (List Int)) (vO : Value) (W : World) (x : Nat) (hx : x ≤ m) (hF : Aside0 (Pa lo mid P cp m W p vO out)) (hf : Aside0 (skipTo p (m - x) x = m)) (hL0 : Aside0 (p.length < 17592186044416)) (hL : Aside0 (out.length < 5864062014805)) :
 Calls Try.prog 16 #[.slice (some ⟨P, 0, none⟩) m cp, .int .i64 x, vO] W fun e W' => ∃ v, e = .returned v ∧ Pa lo mid P cp m W' p v (out ++ [p]) ∧ Same (fun k => k < lo) W W' := by
 obtain rfl : p.length = m := hF.out.len
 have hsp := Aside0.mk (skipTo_spec p (p.length - x) x)
 have HX := Aside0.mk hx
 have HM := Aside0.mk hm
 have HSZ := Aside0.mk hF.out.size
 have HT := Aside0.mk (Kd.S_lt hF.out.out)
 clear hx hm
 go_enter Try.func16, Try.ntmps16
 go_wp2_with (fail)
 go_loopg [1] (p.length - x) (fun kq v1 w' => ∃ y : Nat, v1 = .int .i64 (y : Int) ∧ Aside0 (x ≤ y) ∧ Aside0 (y + kq = p.length) ∧ Drawn0 W w')
 case atStart => exact ⟨x, rfl, ⟨Nat.le_refl _⟩, ⟨by have := HX.out; omega⟩, dr_⟩
 case round =>
  obtain ⟨y, rfl, HY, HK, ⟨m1, rfl⟩⟩ := hrel
  cases gk with
  | zero =>
    have hy : decide ((y : Int) < (p.length : Int)) = false := decide_eq_false (by have := HK.out; omega)
    have hy2 : ((y : Int) == (p.length : Int)) = true := beq_iff_eq.mpr (by have := HK.out; omega)
    have hy3 : decide (y < p.length) = false := decide_eq_false (by have := HK.out; omega)
    have hy4 : (y == p.length) = true := beq_iff_eq.mpr (by have := HK.out; omega)
    have HR := Aside0.mk (Kd.C_drewN (Kd.R_reads' hF.out.row).2.2 m1)
    obtain ⟨y5, hy5⟩ : ∃ y : List Int, y = ([] : List Int) := ⟨_, rfl⟩
    have Ny5 := Aside0.mk hy5
    have LY5 : Aside0 (y5.length = 0) := ⟨by rw [hy5]; rfl⟩
    clear hy5
    go_wp2_with (first
     | ((with_reducible refine gate_dst (N := 26) rfl ?_); refine Kd.R_lit (Kd.int .i64) _ 3 ?hg (N := 26) ?hd (xs := ([] : List Int)) (inner := []) (ok := fun _ => True) (okp := fun _ => True) ?hr ?hp (fun _ hk => hk) trivial (Below.refl _ _) (Nat.le_refl _) (by simp) ?_; (case hd => rfl); (case hg => rfl); (case hr => first | (go_simp; done) | (go_simp; rfl)); (case hp => exact (Reps.none _ _)); intro v5 w5 ho5 hb5 hg_ hnew_; clear hg_ hnew_; (first | rw [← Ny5.out] at ho5 | (simp only [Int.reduceToNat] at ho5; rw [← Ny5.out] at ho5)); have HO5 := Aside0.mk ho5; have HB5 := Aside0.mk hb5; clear ho5 hb5)
     | ((with_reducible refine gate_builtin (b := .append) (xs := #[.tmp 26, .tmp 27]) rfl ?_); at_builtin; refine Kd.R_append_rows (Kd.int .i64) (w0 := W.drewN m1) (W.drewN m1).heap.size rfl (.tmp 26) (.tmp 27) 28 3 (.int .i64 0) 8 rfl Try.underlying28 info3 rfl (by decide) (by omega) v5 y5 p _ _ _ (fun _ => True) (fun _ => False) rfl rfl ?aO ?aR (fun _ _ h => h) (fun _ h => h.elim) ?aF ?aB ?aS ?aL ?_; (case aR => repeat (first | exact (Kd.C_below HR.out HB5.out) | (with_reducible refine Kd.C_alloc ?_ _) | (with_reducible refine Kd.C_drewN ?_ _) | (with_reducible refine Kd.C_drew ?_))); (case aB => exact HB5.out); (case aF => exact (fun _ _ => trivial)); (case aO => exact HO5.out); (case aS => exact HB5.out.size); (case aL => have := hL0.out; have := LY5.out; omega); intro v7 w7 ho7 hb7 hg7 hat7; rw [Ny5.out, List.nil_append] at ho7; have HN7 := Aside0.mk (Kd.R_bound ho7); have hb8 : Below W.heap.size W w7 := below_step (pw_below_drewN (Below.refl _ _) m1) hb7; have HB7 := Aside0.mk hb8; have HO7 := Aside0.mk (Kd.S_below (Kd.S_bound hF.out.out) hb8); have HB7m := Aside0.mk (show Below mid W w7 from hb8.mono hF.out.size); have HW7 := Aside0.mk (Nat.le_trans hF.out.size hb8.size); have HZ7 := Aside0.mk hb8.size; clear ho7 hb7 hg7 hat7 hb8; obtain ⟨A7, c7, e7⟩ := Kd.R_slice HN7.out; subst e7)
     | ((with_reducible refine gate_builtin (b := .append) (xs := #[.tmp 25, .tmp 29]) rfl ?_); at_builtin; refine Kd.S_append (Kd.slice 3 (Kd.int .i64)) (w0 := W) mid rfl (.tmp 25) (.tmp 29) 27 28 (.slice none 0 0) 24 rfl Try.underlying27 info28 rfl (by decide) (by omega) vO out p [.slice A7 p.length c7] (fun k => mid ≤ k) (fun k => W.heap.size ≤ k) rfl rfl ?aP ?aQ ?aF ?aO ?aB ?aS ?aL ?_; (case aP => exact Kd.M_row (Kd.R_mono (Kd.R_lower HN7.out HSZ.out) (fun k hk => hk.2.1))); (case aQ => exact fun k hk => ⟨by have := HSZ.out; omega, fun e => by have := HT.out k e.symm; omega⟩); (case aF => exact fun k hk => by have := HW7.out; omega); (case aO => exact Kd.S_mono HO7.out (fun k hk => ⟨hk.1, by have := hk.2.2.1; omega⟩)); (case aB => exact HB7m.out); (case aS => exact HW7.out); (case aL => have := hL.out; omega); intro v3 w3 ho3 hb3 hg3 hat3; have HO3 := Aside0.mk ho3; have HS3 := Aside0.mk (show Same (fun k => k < mid) w7 w3 from ⟨hg3.os, hg3.tape, hg3.output, hg3.size, fun k hk hl => hg3.block k hl (fun e => by have := Kd.S_base HO7.out k e.symm; omega)⟩); clear ho3 hb3 hg3 hat3))
    go_ret
    have HS := (Same.of_below (K := fun k => k < mid) HB7.out).trans HS3.out
    exact ⟨v3, rfl, ⟨Kd.R_step hF.out.row (fun k hk hl => HS.block k hk.2 hl), Nat.le_trans hF.out.size HS.size, HO3.out⟩, HS.mono (fun k hk => by omega)⟩
  | succ k1 =>
    have hlt : y < p.length := by have := HK.out; omega
    have hy : decide ((y : Int) < (p.length : Int)) = true := decide_eq_true (by omega)
    have hy1 : decide (y < p.length) = true := decide_eq_true hlt
    have hge := hsp.out.2.2.1 y HY.out (by rw [hf.out]; exact hlt)
    have hgeb : decide (0 ≤ rd p (y : Int)) = true := decide_eq_true hge
    obtain ⟨hc, hfr⟩ := hF.out.cell y hlt
    have hb9 : (y : Int) ≤ 1000 := by have := HM.out; omega
    clear hfr hge
    go_wp2
    go_roundg k1
    case measure => omega
    case rel => exact ⟨y + 1, rf_, ⟨by have := HY.out; omega⟩, ⟨by have := HK.out; omega⟩, dr_⟩

theorem named3 {P : Program} {c : Code} {Q : Exit → Act → World → Prop} {a : Act} {w : World} (R : World → Prop) (h : R w) (k : ∀ w', R w' → Code.wp P c Q a w') : Code.wp P c Q a w := k w h
set_option maxHeartbeats 4000000 in
set_option maxRecDepth 100000 in
theorem pair_step {lo mid P cp m : Nat} (hm : m ≤ 1000) (hlm : lo ≤ mid) (rec : Nat → PS → Option PS)
 (ih : Aside0 (∀ (x : Nat) (p p' : List Int) (out out' : List (List Int)) (vO : Value) (W : World), x ≤ m → Pa lo mid P cp m W p vO out → rec x (p, out) = some (p', out') →
   Calls Try.prog 16 #[.slice (some ⟨P, 0, none⟩) m cp, .int .i64 x, vO] W fun e W' => ∃ v, e = .returned v ∧ Pa lo mid P cp m W' p' v out' ∧ Same (fun k => k < lo) W W'))
 (p p' : List Int) (out out' : List (List Int)) (vO : Value) (W : World) (x f : Nat) (hx : x ≤ m) (hF : Aside0 (Pa lo mid P cp m W p vO out)) (hf : Aside0 (skipTo p (m - x) x = f)) (hfm : f < m)
 (hr : Aside0 (pairTry rec m f (m - (f + 1)) (p, out) = some (p', out'))) :
 Calls Try.prog 16 #[.slice (some ⟨P, 0, none⟩) m cp, .int .i64 x, vO] W fun e W' => ∃ v, e = .returned v ∧ Pa lo mid P cp m W' p' v out' ∧ Same (fun k => k < lo) W W' := by
 have hsp := skipTo_spec p (m - x) x
 rw [hf.out] at hsp
 have HSP := Aside0.mk hsp
 have HX := Aside0.mk hx
 have HM := Aside0.mk hm
 have hm2 : (m : Int) ≤ 1000 := by omega
 have hf2 : (f : Int) < (m : Int) := by omega
 clear hx hsp hf
 go_enter Try.func16, Try.ntmps16
 go_wp2_with (fail)
 go_loopg [1] (f - x) (fun kq v1 w' => ∃ y : Nat, v1 = .int .i64 (y : Int) ∧ Aside0 (x ≤ y) ∧ Aside0 (y + kq = f) ∧ Drawn0 W w')
 case atStart => exact ⟨x, rfl, ⟨Nat.le_refl _⟩, ⟨by have := HSP.out.1; omega⟩, dr_⟩
 case round =>
  obtain ⟨y, rfl, HY, HK, ⟨m1, rfl⟩⟩ := hrel
  cases gk with
  | zero =>
    obtain rfl : f = y := by have := HK.out; omega
    have hy : decide ((f : Int) < (m : Int)) = true := decide_eq_true hf2
    have hy1 : decide (f < m) = true := decide_eq_true hfm
    have hy2 : ((f : Int) == (m : Int)) = false := beq_eq_false_iff_ne.mpr (by omega)
    have hy3 : (f == m) = false := beq_eq_false_iff_ne.mpr (by omega)
    have hge := HSP.out.2.2.2 (by have := HX.out; omega)
    have hgeb : decide (0 ≤ rd p (f : Int)) = false := decide_eq_false (by omega)
    obtain ⟨hc, hfr⟩ := hF.out.cell f hfm
    clear hfr hge
    go_wp2
    have HF0 := Aside0.mk (hF.out.drewN m1)
    clear hF hc hgeb hy hy1 hy2 hy3
    go_loopg [2, 7] (m - (f + 1)) (fun kq v2 v7 w' => ∃ (z : Nat) (p1 : List Int) (o1 : List (List Int)), v7 = .int .i64 (z : Int) ∧ Aside0 (z + kq = m) ∧ Aside0 (f < z) ∧ Aside0 (pairTry rec m f kq (p1, o1) = some (p', out')) ∧ Aside0 (Pa lo mid P cp m w' p1 v2 o1) ∧ Aside0 (Same (fun k => k < lo) W w'))
    case atStart => exact ⟨f + 1, p, out, rf_, ⟨by omega⟩, ⟨by omega⟩, hr, HF0, ⟨Same.drewN _ _⟩⟩
    case round =>
     clear hr HF0
     obtain ⟨z, p1, o1, rfl, HZ, HFZ, HA, HP, HS⟩ := hrel
     cases gk with
     | zero =>
      have hz : decide ((z : Int) < (m : Int)) = false := decide_eq_false (by have := HZ.out; omega)
      have hz1 : decide (z < m) = false := decide_eq_false (by have := HZ.out; omega)
      have H := Option.some.inj HA.out
      obtain ⟨rfl, rfl⟩ := Prod.mk.inj H
      clear HA H
      go_wp2
      go_ret
      exact ⟨_, rfl, by first | exact HP.out | exact HP.out.drewN _, by first | exact HS.out | exact HS.out.trans (Same.drewN _ _)⟩
     | succ k1 =>
      have hzm : z < m := by have := HZ.out; omega
      have hz : decide ((z : Int) < (m : Int)) = true := decide_eq_true (by omega)
      have hz1 : decide (z < m) = true := decide_eq_true hzm
      have hz2 : (z : Int) ≤ 1000 := by omega
      have hf1 : decide ((f : Int) < (m : Int)) = true := decide_eq_true hf2
      have hf3 : decide (f < m) = true := decide_eq_true hfm
      have hzz : m - (k1 + 1) = z := by have := HZ.out; omega
      have H := HA.out
      clear HA
      rw [pairTry] at H
      rw [hzz] at H
      have HZZ := Aside0.mk hzz
      clear hzz
      obtain ⟨hc, hfr⟩ := HP.out.cell z hzm
      by_cases c : 0 ≤ rd p1 (z : Int)
      · rw [if_pos c] at H
        have hcb : decide (0 ≤ rd p1 (z : Int)) = true := decide_eq_true c
        have HH := Aside0.mk H
        clear H c hfr
        go_wp2
        go_roundg k1
        case measure => have := HZ.out; omega
        case rel => exact ⟨z + 1, p1, o1, rf_, ⟨by have := HZ.out; omega⟩, ⟨by have := HFZ.out; omega⟩, HH, by first | exact HP | exact ⟨HP.out.drewN _⟩, by first | exact HS | exact ⟨HS.out.trans (Same.drewN _ _)⟩⟩
      · rw [if_neg c] at H
        have hcb : decide (0 ≤ rd p1 (z : Int)) = false := decide_eq_false c
        clear c
        obtain ⟨b, hb, H⟩ := Option.bind_eq_some_iff.mp H
        have HB := Aside0.mk hb
        have HH := Aside0.mk H
        clear H hb
        obtain ⟨hc2, hfr2⟩ := HP.out.cell f hfm
        have hPd := HP.out.head
        have HPD := Aside0.mk hPd
        clear hPd
        go_upto_region 10 with (fail)
        refine named3 (fun w' => Pa lo mid P cp m w' (p1.set f (z : Int)) u2 o1 ∧ Same (fun k => k < lo) W w') (by first | exact ⟨HP.out.set f (z : Int), same_set HS.out HPD.out.1 _⟩ | exact ⟨(HP.out.set f (z : Int)).drewN _, (same_set HS.out HPD.out.1 _).trans (Same.drewN _ _)⟩) ?_
        intro w2 hR2
        obtain ⟨F2, S2⟩ := hR2
        clear hc hfr hc2 hfr2
        obtain ⟨hc, hfr⟩ := F2.cell z hzm
        have HP2 := Aside0.mk F2
        have HS2 := Aside0.mk S2
        clear F2 S2
        go_upto_region 11 with (fail)
        refine named3 (fun w' => Pa lo mid P cp m w' ((p1.set f (z : Int)).set z (f : Int)) u2 o1 ∧ Same (fun k => k < lo) W w') (by first | exact ⟨HP2.out.set z (f : Int), same_set HS2.out HPD.out.1 _⟩ | exact ⟨(HP2.out.set z (f : Int)).drewN _, (same_set HS2.out HPD.out.1 _).trans (Same.drewN _ _)⟩) ?_
        intro w3 hR3
        obtain ⟨F3, S3⟩ := hR3
        clear hc hfr
        obtain ⟨pc, hpc⟩ : ∃ q : List Int, q = (p1.set f (z : Int)).set z (f : Int) := ⟨_, rfl⟩
        rw [← hpc] at F3
        have HB2 := HB.out
        rw [← hpc] at HB2
        have HH2 := HH.out
        rw [← hpc] at HH2
        have HPC := Aside0.mk hpc
        clear hpc HP HP2 HS HS2 HB HH
        have hcr := clochelaw09_crossing.calls 1000 (some ⟨P, 0, none⟩) cp pc b w3 (Kd.R_reads' F3.row).2.2 (by have := (Kd.R_reads' F3.row).2.1; rw [F3.len]; exact this) HB2
        rw [F3.len] at hcr
        have HCR := Aside0.mk hcr
        have HF3 := Aside0.mk F3
        have HS3 := Aside0.mk S3
        clear hcr F3 S3 HB2
        cases b with
        | true =>
         rw [if_pos rfl] at HH2
         have HH := Aside0.mk HH2
         clear HH2
         go_upto_region 13 with (go_at_call 46; refine HCR.out.mono ?_; rintro e w4 ⟨rfl, ⟨nd, rfl⟩⟩)
         refine named3 (fun w' => Pa lo mid P cp m w' pc u2 o1 ∧ Same (fun k => k < lo) W w') (by first | exact ⟨HF3.out.drewN _, HS3.out.trans (Same.drewN _ _)⟩ | exact ⟨HF3.out, HS3.out⟩) ?_
         intro w4 hR4
         obtain ⟨F4, S4⟩ := hR4
         obtain ⟨hc, hfr⟩ := F4.cell f hfm
         have HP4 := Aside0.mk F4
         have HS4 := Aside0.mk S4
         clear F4 S4 HF3 HS3
         go_upto_region 14 with (fail)
         refine named3 (fun w' => Pa lo mid P cp m w' (pc.set f (-1)) u2 o1 ∧ Same (fun k => k < lo) W w') (by first | exact ⟨HP4.out.set f (-1), same_set HS4.out HPD.out.1 _⟩ | exact ⟨(HP4.out.set f (-1)).drewN _, (same_set HS4.out HPD.out.1 _).trans (Same.drewN _ _)⟩) ?_
         intro w5 hR5
         obtain ⟨F5, S5⟩ := hR5
         clear hc hfr
         obtain ⟨hc, hfr⟩ := F5.cell z hzm
         have HP5 := Aside0.mk F5
         have HS5 := Aside0.mk S5
         clear F5 S5 HP4 HS4
         go_wp2
         go_roundg k1
         case measure => have := HZ.out; omega
         case rel => exact ⟨z + 1, (pc.set f (-1)).set z (-1), o1, rf_, ⟨by have := HZ.out; omega⟩, ⟨by have := HFZ.out; omega⟩, HH, ⟨by first | exact HP5.out.set z (-1) | exact (HP5.out.set z (-1)).drewN _⟩, ⟨by first | exact same_set HS5.out HPD.out.1 _ | exact (same_set HS5.out HPD.out.1 _).trans (Same.drewN _ _)⟩⟩
        | false =>
         rw [if_neg (by decide)] at HH2
         obtain ⟨⟨p2, o2⟩, hy2, hz9⟩ := Option.bind_eq_some_iff.mp HH2
         have HH := Aside0.mk hz9
         have hi := fun nd => ih.out (f + 1) pc p2 o1 o2 u2 (w3.drewN nd) (by omega) (HF3.out.drewN nd) hy2
         have hp1 : ((f + 1 : Nat) : Int) = (f : Int) + 1 := by omega
         rw [hp1] at hi
         have HI := Aside0.mk hi
         clear HH2 hy2 hz9 hi hp1
         go_upto_region 13 with (first | (go_at_call 46; refine HCR.out.mono ?_; rintro e w4 ⟨rfl, ⟨nd, rfl⟩⟩) | (go_at_call 16; refine (HI.out _).mono ?_; rintro e w5 ⟨v5, rfl, F5, S5⟩; have HF5 := Aside0.mk F5; have HS5 := Aside0.mk ((HS3.out.trans (Same.drewN _ _)).trans S5); clear F5 S5))
         refine named3 (fun w' => Pa lo mid P cp m w' p2 v5 o2 ∧ Same (fun k => k < lo) W w') (by first | exact ⟨HF5.out, HS5.out⟩ | exact ⟨HF5.out.drewN _, HS5.out.trans (Same.drewN _ _)⟩) ?_
         intro w6 hR6
         obtain ⟨F6, S6⟩ := hR6
         obtain ⟨hc, hfr⟩ := F6.cell f hfm
         have HP6 := Aside0.mk F6
         have HS6 := Aside0.mk S6
         clear F6 S6 HF3 HS3 HF5 HS5
         go_upto_region 14 with (fail)
         refine named3 (fun w' => Pa lo mid P cp m w' (p2.set f (-1)) v5 o2 ∧ Same (fun k => k < lo) W w') (by first | exact ⟨HP6.out.set f (-1), same_set HS6.out HPD.out.1 _⟩ | exact ⟨(HP6.out.set f (-1)).drewN _, (same_set HS6.out HPD.out.1 _).trans (Same.drewN _ _)⟩) ?_
         intro w7 hR7
         obtain ⟨F7, S7⟩ := hR7
         clear hc hfr
         obtain ⟨hc, hfr⟩ := F7.cell z hzm
         have HP7 := Aside0.mk F7
         have HS7 := Aside0.mk S7
         clear F7 S7 HP6 HS6
         go_wp2
         go_roundg k1
         case measure => have := HZ.out; omega
         case rel => exact ⟨z + 1, (p2.set f (-1)).set z (-1), o2, rf_, ⟨by have := HZ.out; omega⟩, ⟨by have := HFZ.out; omega⟩, HH, ⟨by first | exact HP7.out.set z (-1) | exact (HP7.out.set z (-1)).drewN _⟩, ⟨by first | exact same_set HS7.out HPD.out.1 _ | exact (same_set HS7.out HPD.out.1 _).trans (Same.drewN _ _)⟩⟩
  | succ k1 =>
   have hlt : y < f := by have := HK.out; omega
   have hy : decide ((y : Int) < (m : Int)) = true := decide_eq_true (by omega)
   have hy1 : decide (y < m) = true := decide_eq_true (by omega)
   have hge := HSP.out.2.2.1 y HY.out hlt
   have hgeb : decide (0 ≤ rd p (y : Int)) = true := decide_eq_true hge
   obtain ⟨hc, hfr⟩ := hF.out.cell y (by omega)
   have hb9 : (y : Int) ≤ 1000 := by omega
   clear hfr hge
   go_wp2
   go_roundg k1
   case measure => omega
   case rel => exact ⟨y + 1, rf_, ⟨by have := HY.out; omega⟩, ⟨by have := HK.out; omega⟩, dr_⟩

/-- The walk of pairings, for a list of m ends. -/
theorem pair_calls {lo mid P cp m : Nat} (hm : m ≤ 1000) (hlm : lo ≤ mid) (k : Nat) : ∀ (x : Nat) (p p' : List Int) (out out' : List (List Int)) (vO : Value) (W : World), x ≤ m → Pa lo mid P cp m W p vO out → pairF m k x (p, out) = some (p', out') →
 Calls Try.prog 16 #[.slice (some ⟨P, 0, none⟩) m cp, .int .i64 x, vO] W fun e W' => ∃ v, e = .returned v ∧ Pa lo mid P cp m W' p' v out' ∧ Same (fun k => k < lo) W W' := by
 induction k with
 | zero => intro x p p' out out' vO W hx hF h; simp [pairF] at h
 | succ k ih =>
  intro x p p' out out' vO W hx hF h
  simp only [pairF] at h
  by_cases e : skipTo p (m - x) x = m
  · rw [if_pos e] at h
    by_cases hL : p.length < 17592186044416 ∧ out.length < 5864062014805
    · rw [if_pos hL] at h
      obtain ⟨rfl, rfl⟩ := Prod.mk.inj (Option.some.inj h)
      exact pair_end hm hlm p out vO W x hx ⟨hF⟩ ⟨e⟩ ⟨hL.1⟩ ⟨hL.2⟩
    · rw [if_neg hL] at h
      cases h
  · rw [if_neg e] at h
    have := (skipTo_spec p (m - x) x).2.1
    exact pair_step hm hlm (pairF m k) ⟨ih⟩ p p' out out' vO W x _ hx ⟨hF⟩ ⟨rfl⟩ (by omega) ⟨h⟩
end Go.Proofs.Ytdinepghommchaa.V

/- pairings from the first end on, with an empty list: the contract for its caller. -/
namespace Go.Proofs.Ytdinepghommchaa.V
open Go.RowKit Go.Proofs.YtdinepghommchaaW.PrintWords Go.Proofs.YtdinepghommchaaW.PrintLast Go.Proofs.YtdinepghommchaaW.PrintMore
theorem Same.below1 {b : Nat} {A B : World} (h : Same (fun k => k < b) A B) (hb : b ≤ A.heap.size) : Below b A B := ⟨h.os, h.tape, h.output, h.size, fun k hk => h.block k hk (by omega)⟩
def clochelaw09_pairings.f (k : Nat) (p : List Int) (x : Int) (out : List (List Int)) : Option (List (List Int)) :=
  if x = 0 ∧ out = [] ∧ 1 ≤ p.length ∧ p.length ≤ 1000 then (pairF p.length 100 0 (p, [])).map (fun z => z.2) else none
theorem clochelaw09_pairings.own (k lo : Nat) (A : Option Addr) (c : Nat) (p : List Int) (r : List (List Int)) (w : World) (h : Kd.R (Kd.int .i64) 3 w lo (fun _ => True) (.slice A p.length c) p) (hlo : lo ≤ w.heap.size) (hk : clochelaw09_pairings.f k p 0 [] = some r) :
    Calls Try.prog 16 #[.slice A p.length c, .int .i64 0, .slice none 0 0] w fun e w' => ∃ v, e = .returned v ∧ Kd.S (Kd.slice 3 (Kd.int .i64)) 28 w' w.heap.size (fun _ => True) v r ∧ Same (fun k => k < lo) w w' := by
  unfold clochelaw09_pairings.f at hk
  by_cases hc : ((0 : Int) = 0 ∧ ([] : List (List Int)) = [] ∧ 1 ≤ p.length ∧ p.length ≤ 1000)
  · rw [if_pos hc] at hk
    obtain ⟨_, _, h1, h2⟩ := hc
    obtain ⟨⟨p', o'⟩, hy, rfl⟩ := Option.map_eq_some_iff.mp hk
    obtain ⟨g, cap, e, _, _, _⟩ := Kd.R_form h (by omega)
    injection e with eA en ec
    subst eA ec
    have hF : Pa lo w.heap.size g c p.length w p (.slice none 0 0) [] := ⟨Kd.R_mono (Kd.R_bound h) (fun k hk => ⟨hk.2.1, hk.2.2.1⟩), Nat.le_refl _, Kd.S_nil _ _ _ _ _⟩
    have z := pair_calls h2 hlo 100 0 p p' [] o' (.slice none 0 0) w (by omega) hF hy
    exact z.mono fun e w' ⟨v, he, hF', hs⟩ => ⟨v, he, Kd.S_mono hF'.out (fun _ _ => trivial), hs⟩
  · rw [if_neg hc] at hk
    cases hk
end Go.Proofs.Ytdinepghommchaa.V

-- Written by a program of this session over the kit's printer: wip/gp.py.
namespace Go.Proofs.Ytdinepghommchaa.V
open Go.RowKit Go.Proofs.YtdinepghommchaaW.PrintWords Go.Proofs.YtdinepghommchaaW.PrintLast Go.Proofs.YtdinepghommchaaW.PrintMore
attribute [local go_sem] max2_int min2_int max_two min_two max_three min_three max_four min_four   -- for this text's walks alone
set_option linter.unusedVariables false
set_option linter.unusedSimpArgs false

/-! ### clochelaw09_VeilsSummed: function 4 -/
mutual
def clochelaw09_VeilsSummed.l0 : Nat → List (List (List Int)) → List Int → Int → Option (Bool)
 | 0, _, _, _ => none
 | k + 1, x4, x6, x7 => if x7 < (x6.length : Int) then (if 0 ≤ x7 then (clochelaw09_VeilsSummed.l0 k x4 (x6.set (x7 : Int).toNat (-1)) (wrap64 (x7 + 1))) else (none)) else ((clochelaw09_pairings.f k x6 0 ([] : List (List Int))).bind fun t203 => (clochelaw09_VeilsSummed.l1 k x4 t203 0 0))
def clochelaw09_VeilsSummed.l1 : Nat → List (List (List Int)) → List (List Int) → Int → Int → Option (Bool)
 | 0, _, _, _, _ => none
 | k + 1, x4, x8, x9, x10 => if x10 < (x8.length : Int) then (if 0 ≤ x10 then ((veils_Count.f k (rd_L1 x8 x10)).bind fun bt207 => (if bt207.2 = 0 then (if bt207.1 < 1 then (some false) else (clochelaw09_VeilsSummed.l1 k x4 x8 (wrap64 (x9 + bt207.1)) (wrap64 (x10 + 1)))) else (some false))) else (none)) else (if x9 = (x4.length : Int) then ((clochelaw09_alive.f).bind fun t209 => (some t209)) else (some false))
end
def clochelaw09_VeilsSummed.f (k : Nat) (a0 : Int) : Option (Bool) := (veils_All.f (wrap64 (1 + (wrap64 (Int.tmod a0 4))))).bind fun bt195 => (if bt195.2 = 0 then (if 0 ≤ (wrap64 (2 * (wrap64 (1 + (wrap64 (Int.tmod a0 4)))))) then (if (wrap64 (2 * (wrap64 (1 + (wrap64 (Int.tmod a0 4))))) : Int).toNat ≤ 35184372088832 then (clochelaw09_VeilsSummed.l0 k bt195.1 (List.replicate (wrap64 (2 * (wrap64 (1 + (wrap64 (Int.tmod a0 4))))) : Int).toNat 0) 0) else (none)) else (none)) else (some false))
set_option maxHeartbeats 8000000 in
set_option maxRecDepth 100000 in
theorem clochelaw09_VeilsSummed.calls (k : Nat) (a0 : Int) (w : World) (h : clochelaw09_VeilsSummed.f k a0 = some true) :
 Calls Try.prog 4 #[.int .u8 a0] w fun e w' => e = .returned (.bool true) ∧ Below w.heap.size w w' := by
 have HB := Aside0.mk (Below.refl w.heap.size w)
 have H : ((veils_All.f (wrap64 (1 + (wrap64 (Int.tmod a0 4))))).bind fun bt195 => (if bt195.2 = 0 then (if 0 ≤ (wrap64 (2 * (wrap64 (1 + (wrap64 (Int.tmod a0 4)))))) then (if (wrap64 (2 * (wrap64 (1 + (wrap64 (Int.tmod a0 4))))) : Int).toNat ≤ 35184372088832 then (clochelaw09_VeilsSummed.l0 k bt195.1 (List.replicate (wrap64 (2 * (wrap64 (1 + (wrap64 (Int.tmod a0 4))))) : Int).toNat 0) 0) else (none)) else (none)) else (some false))) = some true := h
 clear h
 replace H := Option.bind_eq_some_iff.mp H
 obtain ⟨⟨t195, t196⟩, A20, H⟩ := H
 replace H : (if t196 = 0 then (if 0 ≤ (wrap64 (2 * (wrap64 (1 + (wrap64 (Int.tmod a0 4)))))) then (if (wrap64 (2 * (wrap64 (1 + (wrap64 (Int.tmod a0 4))))) : Int).toNat ≤ 35184372088832 then (clochelaw09_VeilsSummed.l0 k t195 (List.replicate (wrap64 (2 * (wrap64 (1 + (wrap64 (Int.tmod a0 4))))) : Int).toNat 0) 0) else (none)) else (none)) else (some false)) = some true := H
 have A2 := Aside0.mk A20
 clear A20
 by_cases c3 : t196 = 0
 · rw [if_pos c3] at H
   have c3b0 : (t196 == 0) = true := beq_iff_eq.mpr c3
   have c3b1 : (t196 != 0) = false := bne_eq_false_iff_eq.mpr c3
   clear c3
   obtain ⟨ji4, hji4⟩ : ∃ j_ : Int, (wrap64 (2 * (wrap64 (1 + (wrap64 (Int.tmod a0 4)))))) = j_ := ⟨_, rfl⟩
   replace H : (if 0 ≤ (ji4) then (if (ji4 : Int).toNat ≤ 35184372088832 then (clochelaw09_VeilsSummed.l0 k t195 (List.replicate (ji4 : Int).toNat 0) 0) else (none)) else (none)) = some true := by first | (rw [hji4] at H; exact H) | (simp only [hji4] at H ⊢; exact H)
   (try rw [hji4] at A2)
   have hji4w : (IntKind.i64.wrap (2 * (wrap64 (1 + (wrap64 (Int.tmod a0 4)))))) = ji4 := (i64_w _).trans hji4
   by_cases c5 : 0 ≤ (ji4)
   · rw [if_pos c5] at H
     have c5b0 := eq_true c5
     have c5b1 : decide (0 ≤ (ji4)) = true := decide_eq_true c5
     clear c5
     by_cases c6 : (ji4 : Int).toNat ≤ 35184372088832
     · rw [if_pos c6] at H
       have c6b0 := eq_true c6
       have c6b1 : decide ((ji4 : Int).toNat ≤ 35184372088832) = true := decide_eq_true c6
       clear c6
       obtain ⟨y199, hy199⟩ : ∃ y_ : List Int, y_ = (List.replicate (ji4 : Int).toNat 0) := ⟨_, rfl⟩
       replace H : (clochelaw09_VeilsSummed.l0 k t195 y199 0) = some true := by first | (rw [hy199]; with_reducible exact H) | (have H2_ := (Option.bind_some _ _).symm.trans H; rw [hy199]; with_reducible exact H2_) | (have H2_ := (Option.bind_some _ _).symm.trans H; with_reducible exact H2_) | with_reducible exact H | (rw [hy199]; exact H) | exact H
       have Ny199 := Aside0.mk hy199
       clear hy199
       have H' := Aside0.mk H
       clear H
       go_enter Try.func4, Try.ntmps4
       go_wp2_with (first | ((with_reducible refine gate_callee (f := 13) rfl ?_); refine goesL_ (some 19) rfl rfl Try.func13 (by kernel_rfl) rfl #[.int .i64 (wrap64 (1 + (wrap64 (Int.tmod a0 4))))] rfl ar_ ?_; (with_reducible refine (veils_All.calls (wrap64 (1 + (wrap64 (Int.tmod a0 4)))) t195 t196 _ A2.out).mono ?_); rintro e w7 ⟨v197, rfl, ho0, hb⟩; refine ⟨_, rfl, ?_⟩; have n0_ := Aside0.mk (Kd.R_lower ho0 (below_size (bel_))); have n1_ := Aside0.mk (below_step (bel_) hb); clear HB; have HO198 := n0_; have HB := n1_; clear n0_ n1_; (try clear hb); (try clear hb2); (try clear hk); (try clear hi); (try clear ho0)) | ((with_reducible refine gate_dst (N := 26) rfl ?_); refine Kd.R_make (Kd.int .i64) _ 3 rfl (N := 26) rfl 28 _ _ rfl ji4 rfl rfl Try.underlying28 (.int .i64 0) 8 info3 rfl (by decide) (by omega) 0 (ok := fun _ => True) (okp := fun _ => True) rfl (fun _ hk => hk) trivial (od_) (Nat.le_trans (Nat.mul_le_mul_right _ (od_ : ji4.toNat ≤ 35184372088832)) (by omega)) (Below.refl _ _) (Nat.le_refl _) ?_; intro v200 w8 ho9 hb hg_ hnew_; clear hg_ hnew_; (first | rw [← Ny199.out] at ho9 | (simp only [Int.reduceToNat] at ho9; rw [← Ny199.out] at ho9)); have n0_ := Aside0.mk (Kd.R_elder' (nR_ HO198.out) (Kd.R_base ho9) hb); have n1_ := Aside0.mk (Kd.R_lower ho9 (below_size (bel_))); have n2_ := Aside0.mk (below_step (bel_) hb); clear HO198; clear HB; have HO198 := n0_; have HO201 := n1_; have HB := n2_; clear n0_ n1_ n2_; clear hb ho9))
       go_loopg [7] k (fun kq v7 w' => ∃ (x6_1 : List Int) (x7_1 : Int), v7 = .int .i64 x7_1 ∧ Aside0 (clochelaw09_VeilsSummed.l0 kq t195 x6_1 x7_1 = some true) ∧ Aside0 (kq ≤ k) ∧ Aside0 (Kd.R (Kd.slice 28 (Kd.slice 3 (Kd.int .i64))) 27 w' w.heap.size (fun k_ => some k_ ≠ (v200 : Value).ownBlock) v197 t195) ∧ Aside0 (Kd.R (Kd.int .i64) 3 w' w.heap.size (fun _ => True) v200 x6_1) ∧ Aside0 (Below w.heap.size w w'))
       case atStart => exact ⟨(y199), (0), rf_, H', ⟨Nat.le_refl _⟩, ⟨by (with_reducible repeat (first | apply Kd.R_alloc | apply Kd.R_drewN | apply Kd.R_drew)); exact Kd.R_mono HO198.out (fun _ hk => hk.2)⟩, ⟨nR_ HO201.out⟩, ⟨bel_⟩⟩
       case round =>
        clear H'
        try clear c1
        try clear p2
        try clear c3
        try clear c3b0
        try clear c3b1
        try clear c4
        try clear c5
        try clear c5b0
        try clear c5b1
        try clear c6
        try clear c6b0
        try clear c6b1
        try clear p6
        obtain ⟨x6_1, x7_1, rfl, HA, HK1, HO_4, HO_6, HB⟩ := hrel
        cases gk with
        | zero => exact absurd HA.out (by simp [clochelaw09_VeilsSummed.l0])
        | succ k1 =>
         have H := HA.out
         clear HA
         simp only [clochelaw09_VeilsSummed.l0] at H
         by_cases c10 : x7_1 < (x6_1.length : Int)
         · rw [if_pos c10] at H
           have c10b0 : decide (x7_1 < (x6_1.length : Int)) = true := decide_eq_true c10
           clear c10
           by_cases c11 : 0 ≤ x7_1
           · rw [if_pos c11] at H
             have c11b0 : decide (0 ≤ x7_1) = true := decide_eq_true c11
             clear c11
             obtain ⟨y202, hy202⟩ : ∃ y_ : List Int, y_ = (x6_1.set (x7_1 : Int).toNat (-1)) := ⟨_, rfl⟩
             replace H : (clochelaw09_VeilsSummed.l0 k1 t195 y202 (wrap64 (x7_1 + 1))) = some true := by first | (rw [hy202]; with_reducible exact H) | (have H2_ := (Option.bind_some _ _).symm.trans H; rw [hy202]; with_reducible exact H2_) | (have H2_ := (Option.bind_some _ _).symm.trans H; with_reducible exact H2_) | with_reducible exact H | (rw [hy202]; exact H) | exact H
             have Ny202 := Aside0.mk hy202
             clear hy202
             have H' := Aside0.mk H
             clear H
             obtain ⟨Ao13, co13, eo13⟩ := Kd.R_slice HO_6.out
             subst eo13
             have p12 : 0 ≤ (x7_1 : Int) := od_
             have q12 : (x7_1 : Int) < ((x6_1.length : Int) : Int) := od_
             obtain ⟨go12, co12, eo12, gb12, gl12, cl12, HG12⟩ := Kd.R_form HO_6.out (by omega)
             (first | cases eo12 | (injection eo12 with ea_ en_ ec_; (first | subst ea_ | (injection ea_ with ea_; subst ea_)); subst ec_; clear en_))
             have GB12 := Aside0.mk gb12
             have GG12 := Aside0.mk HG12
             clear gb12 gl12 HG12
             obtain ⟨hx12_0, hf12_0⟩ := Kd.R_celln 0 HO_6.out (x7_1 : Int) p12 q12
             replace p12 := eq_true p12
             replace q12 := eq_true q12
             have HP14 := Kd.R_putg HO_6.out (x7_1 : Int) (-1)
             go_wp2_with (first | ((with_reducible refine gate_store (t := 3) (p := 35) rfl ?_); refine store_event (t := 3) (p := 35) (v := ?vo_w15) (w1 := (wr.setCell ⟨go12, (x7_1 : Int).toNat, none⟩ (.int .i64 (-1)))) ?hg ?ho ?hn ?hr ?_; (case ho => rfl); (case hg => rfl); (case hn => rfl); (case hr => first | (go_simp; done) | (go_simp; rfl)); intro w15 hw; have hg : wr.grownBy w15 (some go12) := (by rw [hw]; exact HP14.2); have hp_ : Kd.R (Kd.int .i64) 3 w15 w.heap.size (fun _ => True) (.slice (some ⟨go12, 0, none⟩) x6_1.length co13) y202 := (by rw [hw, Ny202.out]; exact HP14.1); clear HP14; have n0_ := Aside0.mk (Kd.R_after (v := (.slice (some ⟨go12, 0, none⟩) x6_1.length co13)) (v1 := (.slice (some ⟨go12, 0, none⟩) x6_1.length co13)) (ok := (fun _ => True)) (by (with_reducible repeat (first | apply Kd.R_alloc | apply Kd.R_drewN | apply Kd.R_drew)); exact Kd.R_mono HO_4.out (fun _ hk => ⟨trivial, hk⟩)) hg (.inl rfl)); have n1_ := Aside0.mk (hp_); have n2_ := Aside0.mk ((by rw [hw]; exact below_set (HB.out) GB12.out : Below w.heap.size w w15)); clear HO_4; clear HO_6; clear HB; have HO_4 := n0_; have HO_6 := n1_; have HB := n2_; clear n0_ n1_ n2_; clear hg hw hp_))
             go_roundg k1
             case measure => have := HK1.out; omega
             case rel => exact ⟨(y202), (wrap64 (x7_1 + 1)), rf_, H', ⟨by have := HK1.out; omega⟩, ⟨by (with_reducible repeat (first | apply Kd.R_alloc | apply Kd.R_drewN | apply Kd.R_drew)); exact Kd.R_mono HO_4.out (fun _ hk => hk.2)⟩, ⟨nR_ HO_6.out⟩, ⟨bel_⟩⟩
           · rw [if_neg c11] at H
             exact absurd H (by simp)
         · rw [if_neg c10] at H
           have c10b0 : decide (x7_1 < (x6_1.length : Int)) = false := decide_eq_false c10
           clear c10
           replace H := Option.bind_eq_some_iff.mp H
           obtain ⟨t203, A160, H⟩ := H
           replace H : (clochelaw09_VeilsSummed.l1 k1 t195 t203 0 0) = some true := H
           have A16 := Aside0.mk A160
           clear A160
           have H' := Aside0.mk H
           clear H
           have HV4 : Aside0 (∃ (A_ : Option Addr) (c_ : Nat), v197 = .slice A_ t195.length c_) := ⟨Kd.R_slice HO_4.out⟩
           clear HO_4
           have HO_4 := HV4
           clear HV4
           obtain ⟨Ao17, co17, eo17⟩ := Kd.R_slice HO_6.out
           subst eo17
           go_wp2_with (first | ((with_reducible refine gate_callee (f := 16) rfl ?_); refine goesL_ (some 37) rfl rfl Try.func16 (by kernel_rfl) rfl #[.slice Ao17 x6_1.length co17, .int .i64 0, .slice none 0 0] rfl ar_ ?_; (refine (clochelaw09_pairings.own k1 w.heap.size _ _ x6_1 t203 _ ?side1 ?side2 A16.out).mono ?_); (case side1 => exact (by (with_reducible repeat (first | apply Kd.R_alloc | apply Kd.R_drewN | apply Kd.R_drew)); exact Kd.R_mono HO_6.out (fun _ _ => trivial))); (case side2 => exact HB.out.size); rintro e w18 ⟨v204, rfl, ho0, hb⟩; refine ⟨_, rfl, ?_⟩; have n2_ := Aside0.mk (Kd.S_lower ho0 HB.out.size); have n3_ := Aside0.mk (HB.out.trans (hb.below1 HB.out.size)); clear HO_6; clear HB; have HO205 := n2_; have HB := n3_; clear n2_ n3_; (try clear hb); (try clear hb2); (try clear hk); (try clear hi); (try clear ho0)))
           go_loopg [9, 10] k1 (fun kq v9 v10 w' => ∃ (x9_2 : Int) (x10_2 : Int), v9 = .int .i64 x9_2 ∧ v10 = .int .i64 x10_2 ∧ Aside0 (clochelaw09_VeilsSummed.l1 kq t195 t203 x9_2 x10_2 = some true) ∧ Aside0 (kq ≤ k1) ∧ Aside0 (∃ (A_ : Option Addr) (c_ : Nat), v197 = .slice A_ t195.length c_) ∧ Aside0 (Kd.S (Kd.slice 3 (Kd.int .i64)) 28 w' w.heap.size (fun _ => True) v204 t203) ∧ Aside0 (Below w.heap.size w w'))
           case atStart => exact ⟨(0), (0), rf_, rf_, H', ⟨Nat.le_refl _⟩, HO_4, ⟨by (with_reducible repeat (first | apply Kd.S_alloc | apply Kd.S_drewN | apply Kd.S_drew)); exact Kd.S_mono HO205.out (fun _ hk => trivial)⟩, ⟨bel_⟩⟩
           case round =>
            clear H'
            try clear c1
            try clear p1
            try clear q1
            try clear hx1
            try clear hf1
            try clear p2
            try clear c3
            try clear c3b0
            try clear c3b1
            try clear c4
            try clear c5
            try clear c5b0
            try clear c5b1
            try clear c6
            try clear c6b0
            try clear c6b1
            try clear p6
            try clear c10
            try clear c10b0
            try clear c11
            try clear c11b0
            try clear p12
            try clear q12
            try clear hx12
            try clear hf12
            try clear c13
            try clear c16
            try clear hx12_0
            try clear p12
            try clear p2
            try clear p6
            try clear q12
            obtain ⟨x9_2, x10_2, rfl, rfl, HA, HK2, HO_4, HO_8, HB⟩ := hrel
            cases gk with
            | zero => exact absurd HA.out (by simp [clochelaw09_VeilsSummed.l1])
            | succ k2 =>
             have H := HA.out
             clear HA
             simp only [clochelaw09_VeilsSummed.l1] at H
             by_cases c19 : x10_2 < (t203.length : Int)
             · rw [if_pos c19] at H
               have c19b0 : decide (x10_2 < (t203.length : Int)) = true := decide_eq_true c19
               clear c19
               by_cases c20 : 0 ≤ x10_2
               · rw [if_pos c20] at H
                 have c20b0 : decide (0 ≤ x10_2) = true := decide_eq_true c20
                 clear c20
                 replace H := Option.bind_eq_some_iff.mp H
                 obtain ⟨⟨t207, t208⟩, A210, H⟩ := H
                 replace H : (if t208 = 0 then (if t207 < 1 then (some false) else (clochelaw09_VeilsSummed.l1 k2 t195 t203 (wrap64 (x9_2 + t207)) (wrap64 (x10_2 + 1)))) else (some false)) = some true := H
                 have A21 := Aside0.mk A210
                 clear A210
                 by_cases c22 : t208 = 0
                 · rw [if_pos c22] at H
                   have c22b0 : (t208 == 0) = true := beq_iff_eq.mpr c22
                   have c22b1 : (t208 != 0) = false := bne_eq_false_iff_eq.mpr c22
                   clear c22
                   by_cases c23 : t207 < 1
                   · rw [if_pos c23] at H
                     have c23b0 : decide (t207 < 1) = true := decide_eq_true c23
                     clear c23
                     exact absurd (Option.some.inj H) (by decide)
                   · rw [if_neg c23] at H
                     have c23b0 : decide (t207 < 1) = false := decide_eq_false c23
                     clear c23
                     have H' := Aside0.mk H
                     clear H
                     obtain ⟨Ao26, co26, eo26⟩ := Kd.S_slice HO_8.out
                     subst eo26
                     have p206 : 0 ≤ (x10_2 : Int) := od_
                     have q206 : x10_2 < (t203.length : Int) := od_
                     obtain ⟨ad206, A206_0, c206_0, e206, hx206_0, hl206_0, hi206_0⟩ := at_L1 (Kd.S_reads' HO_8.out).2.2 x10_2 p206 q206
                     cases e206
                     obtain ⟨ce206, hce206, hMe206, hcc206⟩ := Kd.S_get HO_8.out [] x10_2 p206 (by first | exact q206 | exact od_ | (have e_ := (Kd.S_reads' HO_8.out).1; omega))
                     obtain ⟨ve206_0, rfl, ge206_0⟩ := hMe206
                     have hv206_0 := hcc206 0 _ rfl
                     rw [Nat.add_zero, show ((Kd.slice 3 (Kd.int .i64))).sz = 1 from rfl, Nat.mul_one] at hv206_0
                     replace hv206_0 := Option.some.inj (hv206_0.symm.trans hx206_0)
                     rw [hv206_0] at ge206_0
                     have HL206_0 := Aside0.mk (show Kd.R (Kd.int .i64) 3 _ _ _ _ (rd_L1 t203 x10_2) from ge206_0)
                     clear hv206_0 ge206_0
                     clear hcc206 hce206
                     have HR206_0 := Aside0.mk hi206_0
                     have HC206_0 := Aside0.mk hl206_0
                     clear hi206_0 hl206_0
                     replace p206 := eq_true p206
                     replace q206 := eq_true q206
                     go_wp2_with (first | ((with_reducible refine gate_callee (f := 17) rfl ?_); refine goesL_ (some 49) rfl rfl Try.func17 (by kernel_rfl) rfl #[.slice A206_0 (rd_L1 t203 x10_2).length c206_0] rfl ar_ ?_; (with_reducible refine (veils_Count.calls k2 _ _ (rd_L1 t203 x10_2) t207 t208 _ ?side1 ?side2 A21.out).mono ?_); (case side1 => repeat (first | exact (by repeat (first | (with_reducible exact HR206_0.out) | (with_reducible refine Kd.C_alloc ?_ _) | (with_reducible refine Kd.C_drewN ?_ _) | (with_reducible refine Kd.C_drew ?_) | exact HR206_0.out)) | (with_reducible refine Kd.C_alloc ?_ _) | (with_reducible refine Kd.C_drewN ?_ _) | (with_reducible refine Kd.C_drew ?_))); (case side2 => exact HC206_0.out); rintro e w27 ⟨rfl, hb⟩; refine ⟨_, rfl, ?_⟩; have n0_ := HO_4; have n1_ := Aside0.mk (Kd.S_below (nS_ HO_8.out) hb); have n2_ := Aside0.mk (Kd.R_below (nR_ HL206_0.out) hb); have n3_ := Aside0.mk (Kd.C_below (by repeat (first | (with_reducible exact HR206_0.out) | (with_reducible refine Kd.C_alloc ?_ _) | (with_reducible refine Kd.C_drewN ?_ _) | (with_reducible refine Kd.C_drew ?_) | exact HR206_0.out)) hb); have n4_ := Aside0.mk (below_step (bel_) hb); clear HO_4; clear HO_8; clear HL206_0; clear HR206_0; clear HB; have HO_4 := n0_; have HO_8 := n1_; have HL206_0 := n2_; have HR206_0 := n3_; have HB := n4_; clear n0_ n1_ n2_ n3_ n4_; (try clear hb); (try clear hb2); (try clear hk); (try clear hi)))
                     go_roundg k2
                     case measure => have := HK1.out; have := HK2.out; omega
                     case rel => exact ⟨(wrap64 (x9_2 + t207)), (wrap64 (x10_2 + 1)), rf_, rf_, H', ⟨by have := HK1.out; have := HK2.out; omega⟩, HO_4, ⟨nS_ HO_8.out⟩, ⟨bel_⟩⟩
                 · rw [if_neg c22] at H
                   have c22b0 : (t208 == 0) = false := beq_eq_false_iff_ne.mpr c22
                   have c22b1 : (t208 != 0) = true := bne_iff_ne.mpr c22
                   exact absurd (Option.some.inj H) (by decide)
               · rw [if_neg c20] at H
                 exact absurd H (by simp)
             · rw [if_neg c19] at H
               have c19b0 : decide (x10_2 < (t203.length : Int)) = false := decide_eq_false c19
               clear c19
               by_cases c30 : x9_2 = (t195.length : Int)
               · rw [if_pos c30] at H
                 have c30b0 : (x9_2 == (t195.length : Int)) = true := beq_iff_eq.mpr c30
                 have c30b1 : (x9_2 != (t195.length : Int)) = false := bne_eq_false_iff_eq.mpr c30
                 clear c30
                 replace H := Option.bind_eq_some_iff.mp H
                 obtain ⟨t209, A310, H⟩ := H
                 replace H : (some t209) = some true := H
                 have A31 := Aside0.mk A310
                 clear A310
                 have HT := Option.some.inj H
                 subst HT
                 obtain ⟨Ao32, co32, eo32⟩ := Kd.S_slice HO_8.out
                 subst eo32
                 obtain ⟨Ao33, co33, eo33⟩ := HO_4.out
                 subst eo33
                 go_wp2_with (first | (go_at_call 15; (with_reducible refine (clochelaw09_alive.calls  true _ A31.out).mono ?_); rintro e w34 ⟨rfl, hb⟩; have n0_ := HO_4; have n1_ := Aside0.mk (Kd.S_below (nS_ HO_8.out) hb); have n2_ := Aside0.mk (below_step (bel_) hb); clear HO_4; clear HO_8; clear HB; have HO_4 := n0_; have HO_8 := n1_; have HB := n2_; clear n0_ n1_ n2_; (try clear hb); (try clear hb2); (try clear hk); (try clear hi)))
                 go_ret
                 exact ⟨by first | rfl | (simp [errW_none, errW_some] <;> rfl) | (simp only [← hji4]; first | rfl | (simp [errW_none, errW_some] <;> rfl)) | (simp [*, errW_none, errW_some] <;> rfl), bel_⟩
               · rw [if_neg c30] at H
                 have c30b0 : (x9_2 == (t195.length : Int)) = false := beq_eq_false_iff_ne.mpr c30
                 have c30b1 : (x9_2 != (t195.length : Int)) = true := bne_iff_ne.mpr c30
                 exact absurd (Option.some.inj H) (by decide)
     · rw [if_neg c6] at H
       exact absurd H (by simp)
   · rw [if_neg c5] at H
     exact absurd H (by simp)
 · rw [if_neg c3] at H
   have c3b0 : (t196 == 0) = false := beq_eq_false_iff_ne.mpr c3
   have c3b1 : (t196 != 0) = true := bne_iff_ne.mpr c3
   exact absurd (Option.some.inj H) (by decide)
end Go.Proofs.Ytdinepghommchaa.V

/- What the walk of VeilsSummed computes is true for every size. -/
namespace Go.Proofs.Ytdinepghommchaa.V
open Go.RowKit Go.Proofs.YtdinepghommchaaW.PrintWords Go.Proofs.YtdinepghommchaaW.PrintLast Go.Proofs.YtdinepghommchaaW.PrintMore
/-- How many veils have one of these pairings, counted once for each. -/
def sumMany (n : Nat) : List (List Int) → Nat
 | [] => 0
 | p :: ps => many p (pairsOf n) + sumMany n ps
/-- What is asked of the pairings that are listed. -/
def summedP (n : Nat) (p : List Int) : Bool := decide (p.length = 2 * n) && (clocheref09_IsPairing.f 100 p == some true) && decide (0 < many p (pairsOf n))
/-- What Count answers to one of the listed pairings. -/
theorem summed_count {n : Nat} {p : List Int} (h5 : n ≤ 5) (hp : summedP n p = true) : veils_Count.f 100 p = some (((many p (pairsOf n) : Nat) : Int), 0) ∧ 0 < many p (pairsOf n) := by
 simp only [summedP, Bool.and_eq_true, decide_eq_true_eq, beq_iff_eq] at hp
 obtain ⟨⟨h1, h2⟩, h3⟩ := hp
 have hPr : Pr p := by
  rcases isPairing_spec p with ⟨_, h⟩ | ⟨e', _⟩
  · exact h
  · rw [h2] at e'; cases e'
 clear h2
 have hc := (count_spec p (by omega)).1 hPr
 have e : p.length / 2 = n := by clear hc h3; omega
 rw [e] at hc
 exact ⟨hc, h3⟩
theorem sum_step {K : Nat} {L : List (List (List Int))} {X : List (List Int)} {p : List Int} {s i c : Nat} (hi : i < X.length) (hX : X.length ≤ 100) (g : rd_L1 X (i : Int) = p) (hc : veils_Count.f K p = some ((c : Int), 0)) (h0 : 0 < c) (hs : s + c ≤ 900) :
 clochelaw09_VeilsSummed.l1 (K + 1) L X s i = clochelaw09_VeilsSummed.l1 K L X (s + c : Nat) (i + 1 : Nat) := by
 have hw : wrap64 ((i : Int) + 1) = ((i + 1 : Nat) : Int) := by rw [wr _ (by omega)]; omega
 have hw2 : wrap64 ((s : Int) + (c : Int)) = ((s + c : Nat) : Int) := by rw [wr _ (by omega)]; omega
 rw [clochelaw09_VeilsSummed.l1, if_pos (by omega), if_pos (by omega), g, hc, Option.bind_some, if_pos rfl, if_neg (by dsimp only; omega), hw, hw2]
theorem sum_l1 (n : Nat) (L : List (List (List Int))) (X : List (List Int)) (hX : X.length ≤ 100) (hP : X.all (summedP n) = true) (h5 : n ≤ 5) (hL : L.length ≤ 900) (ps : List (List Int)) : ∀ (i s K : Nat), X.drop i = ps → i + ps.length = X.length → s + sumMany n ps = L.length → ps.length + 150 ≤ K →
 clochelaw09_VeilsSummed.l1 K L X s i = some true := by
 induction ps with
 | nil =>
  intro i s K hd hi hs hK
  simp only [List.length_nil] at hi hK
  have hs0 : s = L.length := hs
  clear hs hd hP
  obtain ⟨K, rfl⟩ : ∃ m, K = m + 1 := ⟨K - 1, by omega⟩
  rw [clochelaw09_VeilsSummed.l1, if_neg (by omega), if_pos (by omega)]
  rfl
 | cons p ps ih =>
  intro i s K hd hi hs hK
  simp only [List.length_cons] at hi hK
  have hs1 : s + (many p (pairsOf n) + sumMany n ps) = L.length := hs
  clear hs
  have hlt : i < X.length := by clear hd hP hs1 ih; omega
  obtain ⟨K, rfl⟩ : ∃ m, K = m + 1 := ⟨K - 1, by clear hd hP hs1 ih; omega⟩
  have e1 := List.drop_eq_getElem_cons hlt
  rw [hd] at e1
  injection e1 with e1 e2
  have g : rd_L1 X (i : Int) = p := by rw [rdL1_cast, List.getD_eq_getElem?_getD, List.getElem?_eq_getElem hlt, ← e1]; rfl
  have hp := List.all_eq_true.mp hP _ (List.getElem_mem hlt)
  rw [← e1] at hp
  obtain ⟨hc, h0⟩ := summed_count h5 hp
  have hc' := lift (fun k => veils_Count.mono p k) hc (show 100 ≤ K by clear hd hP hs1 ih hc hp h0; omega)
  generalize many p (pairsOf n) = c at hs1 hc' h0
  rw [sum_step hlt hX g hc' h0 (by clear ih hc'; omega)]
  exact ih (i + 1) (s + c) K (by rw [← e2]) (by clear hd hP hs1 ih hc hc' hp h0; omega) (by rw [Nat.add_assoc]; exact hs1) (by clear hd hP hs1 ih hc hc' hp h0; omega)
theorem set_rep (m x : Nat) (hx : x < m) : (List.replicate x (-1 : Int) ++ List.replicate (m - x) 0).set x (-1) = List.replicate (x + 1) (-1) ++ List.replicate (m - (x + 1)) 0 := by
 rw [show m - x = (m - (x + 1)) + 1 by omega, List.replicate_succ, List.set_append]
 rw [if_neg (by rw [List.length_replicate]; omega), List.length_replicate, Nat.sub_self, List.set_cons_zero, List.replicate_succ', List.append_assoc]
 rfl
theorem sm_abs {A : Option (List (List Int))} {X : List (List Int)} {F : List (List Int) → Option Bool} (hA : A = some X) (hF : F X = some true) : (A.bind F) = some true := by subst hA; exact hF
theorem sum_l0 (n m : Nat) (hm : m ≤ 50) (L : List (List (List Int))) (X : List (List Int)) (hX : X.length ≤ 100) (hP : X.all (summedP n) = true) (h5 : n ≤ 5) (hs : sumMany n X = L.length) (hL : L.length ≤ 900) (hf : clochelaw09_pairings.f 100 (List.replicate m (-1)) 0 [] = some X) : ∀ d x K, x + d = m → d + 300 ≤ K →
 clochelaw09_VeilsSummed.l0 K L (List.replicate x (-1) ++ List.replicate (m - x) 0) x = some true := by
 intro d
 induction d with
 | zero =>
  intro x K hx hK
  obtain rfl : x = m := by omega
  obtain ⟨K, rfl⟩ : ∃ q, K = q + 1 := ⟨K - 1, by omega⟩
  rw [Nat.sub_self, List.replicate_zero, List.append_nil, clochelaw09_VeilsSummed.l0, if_neg (by rw [List.length_replicate]; omega)]
  have e : clochelaw09_pairings.f K (List.replicate x (-1)) 0 [] = some X := hf
  refine sm_abs e ?_
  have := sum_l1 n L X hX hP h5 hL X 0 0 K rfl (by rw [Nat.zero_add]) (by rw [hs, Nat.zero_add]) (by omega)
  exact this
 | succ d ih =>
  intro x K hx hK
  obtain ⟨K, rfl⟩ : ∃ q, K = q + 1 := ⟨K - 1, by omega⟩
  rw [clochelaw09_VeilsSummed.l0, if_pos (by rw [List.length_append, List.length_replicate, List.length_replicate]; omega), if_pos (by omega), Int.toNat_natCast, set_rep m x (by omega), wr_succ x (by omega)]
  exact ih (x + 1) K (by omega) (by omega)
set_option maxRecDepth 1000000 in
theorem summed1 : ∃ X, clochelaw09_pairings.f 100 (List.replicate 2 (-1)) 0 [] = some X ∧ X.length ≤ 100 ∧ X.all (summedP 1) = true ∧ sumMany 1 X = veils1.length := ⟨[[1, 0]], by decide +kernel, by decide +kernel, by decide +kernel, by decide +kernel⟩
set_option maxRecDepth 1000000 in
theorem summed2 : ∃ X, clochelaw09_pairings.f 100 (List.replicate 4 (-1)) 0 [] = some X ∧ X.length ≤ 100 ∧ X.all (summedP 2) = true ∧ sumMany 2 X = veils2.length := ⟨[[1, 0, 3, 2], [3, 2, 1, 0]], by decide +kernel, by decide +kernel, by decide +kernel, by decide +kernel⟩
set_option maxRecDepth 1000000 in
theorem summed3 : ∃ X, clochelaw09_pairings.f 100 (List.replicate 6 (-1)) 0 [] = some X ∧ X.length ≤ 100 ∧ X.all (summedP 3) = true ∧ sumMany 3 X = veils3.length := ⟨[[1, 0, 3, 2, 5, 4], [1, 0, 5, 4, 3, 2], [3, 2, 1, 0, 5, 4], [5, 2, 1, 4, 3, 0], [5, 4, 3, 2, 1, 0]], by decide +kernel, by decide +kernel, by decide +kernel, by decide +kernel⟩
set_option maxRecDepth 1000000 in
theorem summed4 : ∃ X, clochelaw09_pairings.f 100 (List.replicate 8 (-1)) 0 [] = some X ∧ X.length ≤ 100 ∧ X.all (summedP 4) = true ∧ sumMany 4 X = veils4.length :=
 ⟨[[1, 0, 3, 2, 5, 4, 7, 6], [1, 0, 3, 2, 7, 6, 5, 4], [1, 0, 5, 4, 3, 2, 7, 6], [1, 0, 7, 4, 3, 6, 5, 2], [1, 0, 7, 6, 5, 4, 3, 2], [3, 2, 1, 0, 5, 4, 7, 6], [3, 2, 1, 0, 7, 6, 5, 4], [5, 2, 1, 4, 3, 0, 7, 6], [5, 4, 3, 2, 1, 0, 7, 6], [7, 2, 1, 4, 3, 6, 5, 0], [7, 2, 1, 6, 5, 4, 3, 0], [7, 4, 3, 2, 1, 6, 5, 0], [7, 6, 3, 2, 5, 4, 1, 0], [7, 6, 5, 4, 3, 2, 1, 0]], by decide +kernel, by decide +kernel, by decide +kernel, by decide +kernel⟩
theorem st_abs {A : Option (List (List (List Int)) × Int)} {L : List (List (List Int))} {F : List (List (List Int)) → Option Bool} {z : Option Bool} (hA : A = some (L, 0)) (hF : F L = some true) : (A.bind fun bt195 => (if bt195.2 = 0 then F bt195.1 else z)) = some true := by
 subst hA
 simpa using hF
theorem summed_of (k : Nat) (hk : 1000 ≤ k) (a : Int) (n : Nat) (L : List (List (List Int))) (hn : wrap64 (1 + wrap64 (Int.tmod a 4)) = n) (h1 : 1 ≤ n) (h4 : n ≤ 4) (hA : veils_All.f n = some (L, 0)) (hL : L.length ≤ 900) (hS : ∃ X, clochelaw09_pairings.f 100 (List.replicate (2 * n) (-1)) 0 [] = some X ∧ X.length ≤ 100 ∧ X.all (summedP n) = true ∧ sumMany n X = L.length) :
 clochelaw09_VeilsSummed.f k a = some true := by
 obtain ⟨X, x1, x2, x3, x4⟩ := hS
 unfold clochelaw09_VeilsSummed.f
 have hw : wrap64 (2 * (n : Int)) = ((2 * n : Nat) : Int) := by rw [wr _ (by omega)]; omega
 rw [hn, hw]
 refine st_abs (F := fun L => if 0 ≤ ((2 * n : Nat) : Int) then if (((2 * n : Nat) : Int)).toNat ≤ 35184372088832 then clochelaw09_VeilsSummed.l0 k L (List.replicate (((2 * n : Nat) : Int)).toNat 0) 0 else none else none) hA ?_
 show (if 0 ≤ ((2 * n : Nat) : Int) then if (((2 * n : Nat) : Int)).toNat ≤ 35184372088832 then clochelaw09_VeilsSummed.l0 k L (List.replicate (((2 * n : Nat) : Int)).toNat 0) 0 else none else none) = some true
 rw [Int.toNat_natCast, if_pos (by omega), if_pos (by omega)]
 have := sum_l0 n (2 * n) (by omega) L X x2 x3 (by omega) x4 hL x1 (2 * n) 0 k (by omega) (by omega)
 exact this
theorem summed_true (a : Int) (h : 0 ≤ a) (k : Nat) (hk : 1000 ≤ k) : clochelaw09_VeilsSummed.f k a = some true := by
 have h5 : 0 ≤ Int.tmod a 4 ∧ Int.tmod a 4 < 4 := by rw [Int.tmod_eq_emod_of_nonneg h]; omega
 have : Int.tmod a 4 = 0 ∨ Int.tmod a 4 = 1 ∨ Int.tmod a 4 = 2 ∨ Int.tmod a 4 = 3 := by omega
 rcases this with e | e | e | e
 · exact summed_of k hk a 1 veils1 (by rw [e]; decide +kernel) (by omega) (by omega) all1 (by decide +kernel) summed1
 · exact summed_of k hk a 2 veils2 (by rw [e]; decide +kernel) (by omega) (by omega) all2 (by decide +kernel) summed2
 · exact summed_of k hk a 3 veils3 (by rw [e]; decide +kernel) (by omega) (by omega) all3 (by decide +kernel) summed3
 · exact summed_of k hk a 4 veils4 (by rw [e]; decide +kernel) (by omega) (by omega) all4 (by decide +kernel) summed4
theorem nonneg8 {a : Int} (h : (Lit.int .u8 a).wf = true) : 0 ≤ a := by
 simp [Lit.wf] at h
 rw [show IntKind.u8.min = 0 from by decide] at h
 exact h.1
end Go.Proofs.Ytdinepghommchaa.V
