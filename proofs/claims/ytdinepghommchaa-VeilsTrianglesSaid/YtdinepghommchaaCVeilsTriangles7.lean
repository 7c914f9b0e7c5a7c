/- The walks, their words and the pure laws under the claim of VeilsTriangles, part: Vf48, Vf47, Vf17, Vf26, Vf27, Gp, Vf21, Ge, Vf28, Vf44, Vf45. -/
import Derived.Test.YtdinepghommchaaCVeilsTriangles1
import Derived.Test.YtdinepghommchaaCVeilsTriangles6
import Derived.Test.YtdinepghommchaaCVeilsTriangles3
-- Written by a program of this session over the kit's printer: wip/gp.py.
namespace Go.Proofs.Ytdinepghommchaa.V
open Go.RowKit Go.Proofs.YtdinepghommchaaW.PrintWords Go.Proofs.YtdinepghommchaaW.PrintLast Go.Proofs.YtdinepghommchaaW.PrintMore
attribute [local go_sem] max2_int min2_int max_two min_two max_three min_three max_four min_four   -- for this text's walks alone
set_option linter.unusedVariables false
set_option linter.unusedSimpArgs false

/-! ### slices_Equal_int_int: function 48 -/
def slices_Equal_int_int.l0 : Nat → List Int → List Int → Int → Int → Option (Bool)
 | 0, _, _, _, _ => none
 | k + 1, x0, x1, x12, x13 => if x13 < x12 then (if 0 ≤ x13 then (if x13 < (x0.length : Int) then (if x13 < (x1.length : Int) then (if (rd x0 x13) = (rd x1 x13) then (slices_Equal_int_int.l0 k x0 x1 x12 (wrap64 (x13 + 1))) else (some false)) else (none)) else (none)) else (none)) else (some true)
def slices_Equal_int_int.f (k : Nat) (l0 : List Int) (l1 : List Int) : Option (Bool) := if (l0.length : Int) = (l1.length : Int) then (slices_Equal_int_int.l0 k l0 l1 (l0.length : Int) 0) else (some false)
theorem slices_Equal_int_int.mono_l : ∀ k, (∀ y0 y1 y2 y3, LeO (slices_Equal_int_int.l0 k y0 y1 y2 y3) (slices_Equal_int_int.l0 (k + 1) y0 y1 y2 y3))
 | 0 => fun _ _ _ _ r h => by simp [slices_Equal_int_int.l0] at h
 | k + 1 => by
  have ih0 := slices_Equal_int_int.mono_l k
  · intro y0 y1 y2 y3
    unfold slices_Equal_int_int.l0
    repeat' first
    | (with_reducible exact ih0 _ _ _ _)
    | (with_reducible exact LeO.refl _)
    | (with_reducible exact LeO.none _)
    | (with_reducible refine LeO.ite ?_ ?_)
    | (with_reducible refine LeO.bind ?_ (fun _ => ?_))
    | exact ih0 _ _ _ _
    | exact LeO.none _
    | refine LeO.ite ?_ ?_
    | refine LeO.bind ?_ (fun _ => ?_)
theorem slices_Equal_int_int.mono : ∀ a0 a1 k, LeO (slices_Equal_int_int.f k a0 a1) (slices_Equal_int_int.f (k + 1) a0 a1) := by
 intro a0 a1 k
 have ih0 := slices_Equal_int_int.mono_l k
 unfold slices_Equal_int_int.f
 repeat' first
  | (with_reducible exact ih0 _ _ _ _)
  | (with_reducible exact LeO.refl _)
  | (with_reducible exact LeO.none _)
  | (with_reducible refine LeO.ite ?_ ?_)
  | (with_reducible refine LeO.bind ?_ (fun _ => ?_))
  | exact ih0 _ _ _ _
  | exact LeO.none _
  | refine LeO.ite ?_ ?_
  | refine LeO.bind ?_ (fun _ => ?_)
set_option maxHeartbeats 8000000 in
set_option maxRecDepth 100000 in
theorem slices_Equal_int_int.calls (k : Nat) (A0 : Option Addr) (c0 : Nat) (l0 : List Int) (A1 : Option Addr) (c1 : Nat) (l1 : List Int) (r : Bool) (w : World) (hr0 : Kd.C (Kd.int .i64) w A0 l0.length l0) (hc0 : l0.length ≤ c0) (hr1 : Kd.C (Kd.int .i64) w A1 l1.length l1) (hc1 : l1.length ≤ c1) (h : slices_Equal_int_int.f k l0 l1 = some r) :
 Calls Try.prog 48 #[.slice A0 l0.length c0, .slice A1 l1.length c1] w fun e w' => e = .returned (.bool r) ∧ Drawn0 w w' := by
 have HR0 := Aside0.mk hr0
 have HC0 := Aside0.mk hc0
 clear hr0 hc0
 have HR1 := Aside0.mk hr1
 have HC1 := Aside0.mk hc1
 clear hr1 hc1
 have H : (if (l0.length : Int) = (l1.length : Int) then (slices_Equal_int_int.l0 k l0 l1 (l0.length : Int) 0) else (some false)) = some r := h
 clear h
 by_cases c3 : (l0.length : Int) = (l1.length : Int)
 · rw [if_pos c3] at H
   have c3b0 : ((l0.length : Int) == (l1.length : Int)) = true := beq_iff_eq.mpr c3
   have c3b1 : ((l0.length : Int) != (l1.length : Int)) = false := bne_eq_false_iff_eq.mpr c3
   have c3b2 : (l0.length == l1.length) = true := by first | simpa using c3 | (simp at c3 ⊢; omega)
   clear c3
   have H' := Aside0.mk H
   clear H
   go_enter Try.func48, Try.ntmps48
   go_wp2
   repeat (go_quiet (fail); try go_wp2)
   go_loopg [13] k (fun kq v13 w' => ∃ (x13_1 : Int), v13 = .int .i64 x13_1 ∧ Aside0 (slices_Equal_int_int.l0 kq l0 l1 (l0.length : Int) x13_1 = some r) ∧ Aside0 (kq ≤ k) ∧ Drawn0 w w')
   case atStart => exact ⟨(0), rf_, H', ⟨Nat.le_refl _⟩, dr_⟩
   case round =>
    clear H'
    try clear c1
    try clear p2
    try clear c3
    try clear c3b0
    try clear c3b1
    try clear c3b2
    obtain ⟨x13_1, rfl, HA, HK1, ⟨m1, rfl⟩⟩ := hrel
    cases gk with
    | zero => exact absurd HA.out (by simp [slices_Equal_int_int.l0])
    | succ k1 =>
     have H := HA.out
     clear HA
     simp only [slices_Equal_int_int.l0] at H
     by_cases c4 : x13_1 < (l0.length : Int)
     · rw [if_pos c4] at H
       have c4b0 : decide (x13_1 < (l0.length : Int)) = true := decide_eq_true c4
       clear c4
       by_cases c5 : 0 ≤ x13_1
       · rw [if_pos c5] at H
         have c5b0 : decide (0 ≤ x13_1) = true := decide_eq_true c5
         clear c5
         by_cases c6 : x13_1 < (l0.length : Int)
         · rw [if_pos c6] at H
           have c6b0 : decide (x13_1 < (l0.length : Int)) = true := decide_eq_true c6
           clear c6
           by_cases c7 : x13_1 < (l1.length : Int)
           · rw [if_pos c7] at H
             have c7b0 : decide (x13_1 < (l1.length : Int)) = true := decide_eq_true c7
             clear c7
             by_cases c8 : (rd l0 x13_1) = (rd l1 x13_1)
             · rw [if_pos c8] at H
               have c8b0 : ((rd l0 x13_1) == (rd l1 x13_1)) = true := beq_iff_eq.mpr c8
               have c8b1 : ((rd l0 x13_1) != (rd l1 x13_1)) = false := bne_eq_false_iff_eq.mpr c8
               clear c8
               have H' := Aside0.mk H
               clear H
               have p703 : 0 ≤ (x13_1 : Int) := od_
               have q703 : x13_1 < (l0.length : Int) := od_
               obtain ⟨ad703, e703, hx703_0⟩ := Kd.at_int HR0.out x13_1 p703 q703
               cases e703
               replace p703 := eq_true p703
               replace q703 := eq_true q703
               have p704 : 0 ≤ (x13_1 : Int) := od_
               have q704 : x13_1 < (l1.length : Int) := od_
               obtain ⟨ad704, e704, hx704_0⟩ := Kd.at_int HR1.out x13_1 p704 q704
               cases e704
               replace p704 := eq_true p704
               replace q704 := eq_true q704
               go_wp2
               repeat (go_quiet (fail); try go_wp2)
               go_roundg k1
               case measure => have := HK1.out; omega
               case rel => exact ⟨(wrap64 (x13_1 + 1)), rf_, H', ⟨by have := HK1.out; omega⟩, dr_⟩
             · rw [if_neg c8] at H
               have c8b0 : ((rd l0 x13_1) == (rd l1 x13_1)) = false := beq_eq_false_iff_ne.mpr c8
               have c8b1 : ((rd l0 x13_1) != (rd l1 x13_1)) = true := bne_iff_ne.mpr c8
               obtain rfl := Option.some.inj H
               have p703 : 0 ≤ (x13_1 : Int) := od_
               have q703 : x13_1 < (l0.length : Int) := od_
               obtain ⟨ad703, e703, hx703_0⟩ := Kd.at_int HR0.out x13_1 p703 q703
               cases e703
               replace p703 := eq_true p703
               replace q703 := eq_true q703
               have p704 : 0 ≤ (x13_1 : Int) := od_
               have q704 : x13_1 < (l1.length : Int) := od_
               obtain ⟨ad704, e704, hx704_0⟩ := Kd.at_int HR1.out x13_1 p704 q704
               cases e704
               replace p704 := eq_true p704
               replace q704 := eq_true q704
               go_wp2
               repeat (go_quiet (fail); try go_wp2)
               go_ret
               exact ⟨rf_, dr_⟩
           · rw [if_neg c7] at H
             exact absurd H (by simp)
         · rw [if_neg c6] at H
           exact absurd H (by simp)
       · rw [if_neg c5] at H
         exact absurd H (by simp)
     · rw [if_neg c4] at H
       have c4b0 : decide (x13_1 < (l0.length : Int)) = false := decide_eq_false c4
       clear c4
       obtain rfl := Option.some.inj H
       go_wp2
       repeat (go_quiet (fail); try go_wp2)
       go_ret
       exact ⟨rf_, dr_⟩
 · rw [if_neg c3] at H
   have c3b0 : ((l0.length : Int) == (l1.length : Int)) = false := beq_eq_false_iff_ne.mpr c3
   have c3b1 : ((l0.length : Int) != (l1.length : Int)) = true := bne_iff_ne.mpr c3
   have c3b2 : (l0.length == l1.length) = false := by first | simpa using c3 | (simp at c3 ⊢; omega)
   obtain rfl := Option.some.inj H
   go_enter Try.func48, Try.ntmps48
   go_wp2
   repeat (go_quiet (fail); try go_wp2)
   go_ret
   exact ⟨rf_, dr_⟩

end Go.Proofs.Ytdinepghommchaa.V

/- The walk of Count's closure: a veil whose pairing is the one that was asked for is counted. -/
namespace Go.Proofs.Ytdinepghommchaa.V
open Go.RowKit Go.Proofs.YtdinepghommchaaW.PrintWords Go.Proofs.YtdinepghommchaaW.PrintLast Go.Proofs.YtdinepghommchaaW.PrintMore
set_option linter.unusedVariables false
set_option linter.unusedSimpArgs false

def veils_Count1.f (l : List Int) (t : List (List Int)) (k : Int) : Option Int :=
 (veils_raised.f t).bind fun h => (veils_heights_pairing.f 1000 h).bind fun p => (slices_Equal_int_int.f 1000 p l).bind fun e => if e = true then some (wrap64 (k + 1)) else some k

/-- The pairing that is asked for lies in old memory, behind a boxed variable; what was counted in another one. -/
structure AccCount (A : Option Addr) (c bp bo base : Nat) (l : List Int) (W : World) (k : Int) : Prop where
 bp : W.heap[bp]? = some (.cells #[.slice A l.length c] 28 (0, 0))
 bo : W.heap[bo]? = some (.cells #[.int .i64 k] 3 (0, 0))
 rd : ∃ w, Kd.C (Kd.int .i64) w A l.length l ∧ w.heap.size ≤ base ∧ Same (fun k => k < base) w W
 le : l.length ≤ c

theorem AccCount.same {A : Option Addr} {c bp bo base lo hi : Nat} {l : List Int} {W W' : World} {k : Int} (h : AccCount A c bp bo base l W k) (h1 : bp < lo) (h2 : bo < lo) (h3 : base ≤ lo) (hs : Same (fun k => ¬ (lo ≤ k ∧ k < hi)) W W') : AccCount A c bp bo base l W' k := by
 obtain ⟨w, hw, hl, hq⟩ := h.rd
 exact ⟨hs.blk h.bp (by omega), hs.blk h.bo (by omega), ⟨w, hw, hl, hq.trans (hs.mono (fun k hk => by omega))⟩, h.le⟩
theorem AccCount.reads {A : Option Addr} {c bp bo base : Nat} {l : List Int} {W : World} {k : Int} (h : AccCount A c bp bo base l W k) : Kd.C (Kd.int .i64) W A l.length l := by
 obtain ⟨w, hw, hl, hq⟩ := h.rd
 exact Kd.C_below hw (hq.below (fun k hk => by omega))

set_option maxHeartbeats 4000000 in
set_option maxRecDepth 100000 in
theorem veils_Count1.calls {lo0 lo hi bp bo base : Nat} (h0 : lo0 ≤ bo) (h1 : bp < lo) (h2 : bo < lo) (h3 : base ≤ lo) (hbb : base ≤ bo) (l : List Int) (AL : Option Addr) (cL : Nat) (W : World) (A : Option Addr) (c : Nat) (t : List (List Int)) (k k' : Int) (hw : hi ≤ W.heap.size) (hr : Kd.C (Kd.slice 3 (Kd.int .i64)) W A t.length t) (hc : t.length ≤ c)
 (ha : AccCount AL cL bp bo base l W k) (h : veils_Count1.f l t k = some k') :
 Calls Try.prog 47 #[.slice A t.length c, .pointer (some ⟨bp, 0, none⟩), .pointer (some ⟨bo, 0, none⟩)] W fun e W' => e = .returned (.tuple #[]) ∧ AccCount AL cL bp bo base l W' k' ∧ Same (fun k => k < lo0 ∨ (lo ≤ k ∧ k < hi)) W W' := by
 obtain ⟨hh, e1, h⟩ := Option.bind_eq_some_iff.mp h
 obtain ⟨p, e2, h⟩ := Option.bind_eq_some_iff.mp h
 obtain ⟨e, e3, h⟩ := Option.bind_eq_some_iff.mp h
 have HA := Aside0.mk (show AccCount AL cL bp bo base l W.drew k from ⟨blk_drew ha.bp, blk_drew ha.bo, (by obtain ⟨w, hw, hl, hq⟩ := ha.rd; exact ⟨w, hw, hl, hq.trans (Same.drewN W 1)⟩), ha.le⟩)
 have HS := Aside0.mk (show Below W.heap.size W W.drew from below_drew (Below.refl _ _))
 have hcell : W.drew.cell? ⟨bp, 0, none⟩ = some (.slice AL l.length cL) := (blk_cell HA.out.bp 0).trans rfl
 have hne : bo ≠ bp := fun e => by
  have z1 := ha.bp
  rw [← e, ha.bo] at z1
  injection z1 with z1
  injection z1 with _ z2
  cases z2
 have HNE := Aside0.mk hne
 have HR := Aside0.mk (Kd.C_drew hr)
 have HC := Aside0.mk hc
 have E1 := Aside0.mk e1
 have E2 := Aside0.mk e2
 have E3 := Aside0.mk e3
 have HK := Aside0.mk h
 have HW := Aside0.mk hw
 clear hr hc e1 e2 e3 h ha hw hne
 go_enter Try.func47, Try.ntmps47
 go_wp2
 refine start_ (n := 6) (S := fun w' => w'.cell? ⟨bp, 0, none⟩ = some (.slice AL l.length cL)) (ds := []) #[false, false, false, false, false, false] (by kernel_rfl) rfl rfl (hcell) (fun hHeld => ?_)
 generalize W.drew = w1 at HR HA HS hcell hHeld ⊢
 refine pure_ (i := 0) (N := some 4) (v := ?_) (a' := ?_) #[true, false, false, false, false, false] rfl rfl (by kernel_rfl) (fun _ _ _ h => h) (Or.inl ⟨by rfl, ?_⟩) ?_ ?_
 rotate_left
 · intro w'
   go_simp
   with_reducible rfl
 rotate_left
 · simp only [Act.put, List.setIfInBounds_toArray, List.set_cons_zero, List.set_cons_succ]
   rfl
 refine pure_ (i := 1) (N := some 5) (v := ?_) (a' := ?_) #[true, true, false, false, false, false] rfl rfl (by kernel_rfl) (fun _ _ _ h => h) (Or.inl ⟨by rfl, ?_⟩) ?_ ?_
 rotate_left
 · intro w'
   go_simp
   with_reducible rfl
 rotate_left
 · simp only [Act.put, List.setIfInBounds_toArray, List.set_cons_zero, List.set_cons_succ]
   rfl
 refine take_ (i := 4) (N := some 8) (v := ?_) (a' := ?_) #[true, true, false, false, true, false] rfl rfl (by kernel_rfl) (fun _ _ _ h => h) (Or.inl ⟨by rfl, ?_⟩) hHeld ?_ ?_
 rotate_left
 · intro w' s0
   go_simp
   with_reducible rfl
 rotate_left
 · simp only [Act.put, List.setIfInBounds_toArray, List.set_cons_zero, List.set_cons_succ]
   rfl
 refine one_ (i := 2) (N := some 6) #[true, true, true, false, true, false] rfl rfl (by kernel_rfl) (by decide) (fun K hK => ?_)
 refine goes_ Try.func49 (by kernel_rfl) rfl #[.iface 49 (.slice A t.length c)] (by rfl) rfl rfl (by (try simp only [List.map_toArray, List.map_cons, List.map_nil]); first | done | rfl) ?_
 refine (veils_raised.calls A c t hh w1 HR.out HC.out E1.out).mono ?_
 rintro e w2 ⟨v2, rfl, ho2, hb2⟩
 refine ⟨_, rfl, ?_⟩
 have HA2 := Aside0.mk (show AccCount AL cL bp bo base l w2 k from ⟨blk_below HA.out.bp hb2, blk_below HA.out.bo hb2, (by obtain ⟨w, hw, hl, hq⟩ := HA.out.rd; exact ⟨w, hw, hl, hq.trans (Same.of_below hb2)⟩), HA.out.le⟩)
 have HS2 := Aside0.mk (below_step HS.out hb2)
 have HO2 := Aside0.mk ho2
 have hHeld2 : w2.cell? ⟨bp, 0, none⟩ = some (.slice AL l.length cL) := (blk_cell HA2.out.bp 0).trans rfl
 clear ho2 hb2
 refine hK.out _ _ hHeld2 (fun hHeld => ?_)
 clear hK K
 refine norm_ (a' := ?_) ?_ ?_
 rotate_left
 · show Act.put _ (some 6) _ = _
   simp only [Act.put, List.setIfInBounds_toArray, List.set_cons_zero, List.set_cons_succ]
   rfl
 obtain ⟨A2, c2, e2⟩ := Kd.S_slice HO2.out
 subst e2
 refine one_ (i := 3) (N := some 7) #[true, true, true, true, true, false] rfl rfl (by kernel_rfl) (by decide) (fun K hK => ?_)
 refine goes_ Try.func50 (by kernel_rfl) rfl #[.slice A2 hh.length c2] (by rfl) rfl rfl (by (try simp only [List.map_toArray, List.map_cons, List.map_nil]); first | done | rfl) ?_
 refine (veils_heights_pairing.calls 1000 A2 c2 hh p w2 (Kd.S_reads' HO2.out).2.2 (Kd.S_reads' HO2.out).2.1 E2.out).mono ?_
 rintro e w3 ⟨v3, rfl, ho3, hb3⟩
 refine ⟨_, rfl, ?_⟩
 have HA3 := Aside0.mk (show AccCount AL cL bp bo base l w3 k from ⟨blk_below HA2.out.bp hb3, blk_below HA2.out.bo hb3, (by obtain ⟨w, hw, hl, hq⟩ := HA2.out.rd; exact ⟨w, hw, hl, hq.trans (Same.of_below hb3)⟩), HA2.out.le⟩)
 have HS3 := Aside0.mk (below_step HS2.out hb3)
 have HO3 := Aside0.mk ho3
 have hHeld3 : w3.cell? ⟨bp, 0, none⟩ = some (.slice AL l.length cL) := (blk_cell HA3.out.bp 0).trans rfl
 clear ho3 hb3
 refine hK.out _ _ hHeld3 (fun hHeld => ?_)
 clear hK K
 refine norm_ (a' := ?_) ?_ ?_
 rotate_left
 · show Act.put _ (some 7) _ = _
   simp only [Act.put, List.setIfInBounds_toArray, List.set_cons_zero, List.set_cons_succ]
   rfl
 obtain ⟨A3, c3, e3⟩ := Kd.R_slice HO3.out
 subst e3
 refine one_ (i := 5) (N := some 9) #[true, true, true, true, true, true] rfl rfl (by kernel_rfl) (by decide) (fun K hK => ?_)
 refine goes_ Try.func48 (by kernel_rfl) rfl #[.slice A3 p.length c3, .slice AL l.length cL] (by rfl) rfl rfl (by (try simp only [List.map_toArray, List.map_cons, List.map_nil]); first | done | rfl) ?_
 refine (slices_Equal_int_int.calls 1000 A3 c3 p AL cL l e w3 (Kd.R_reads' HO3.out).2.2 (Kd.R_reads' HO3.out).2.1 HA3.out.reads HA3.out.le E3.out).mono ?_
 rintro e0 w4 ⟨rfl, ⟨nd, rfl⟩⟩
 refine ⟨_, rfl, ?_⟩
 have HA4 := Aside0.mk (show AccCount AL cL bp bo base l (w3.drewN nd) k from ⟨blk_drewN HA3.out.bp nd, blk_drewN HA3.out.bo nd, (by obtain ⟨w, hw, hl, hq⟩ := HA3.out.rd; exact ⟨w, hw, hl, hq.trans (Same.drewN _ nd)⟩), HA3.out.le⟩)
 have HS4 := Aside0.mk (pw_below_drewN HS3.out nd)
 have hHeld4 : (w3.drewN nd).cell? ⟨bp, 0, none⟩ = some (.slice AL l.length cL) := (blk_cell HA4.out.bp 0).trans rfl
 clear HS3 HA3 HO3
 generalize w3.drewN nd = w5 at HA4 HS4 hHeld4 ⊢
 refine hK.out _ _ hHeld4 (fun hHeld => ?_)
 clear hK K
 refine norm_ (a' := ?_) ?_ ?_
 rotate_left
 · show Act.put _ (some 9) _ = _
   simp only [Act.put, List.setIfInBounds_toArray, List.set_cons_zero, List.set_cons_succ]
   rfl
 refine done_ (by kernel_rfl) ?_
 have co := (blk_cell HA4.out.bo 0).trans (rfl : _ = some (Value.int .i64 k))
 have fo := blk_frozen HA4.out.bo 0
 have HSAME := Aside0.mk (show Same (fun k => k < lo0 ∨ (lo ≤ k ∧ k < hi)) W w5 from Same.of_below HS4.out)
 have H := HK.out
 clear HK
 cases e with
 | false =>
   obtain rfl := Option.some.inj H
   go_wp2
   first | go_end0 | ((try simp only [Exit.inBlock, Exit.then]); refine bodyPost_ret (results_none rfl _ _ _) rfl ?_)
   exact ⟨rfl, HA4.out, HSAME.out⟩
 | true =>
   rw [if_pos rfl] at H
   obtain rfl := Option.some.inj H
   clear H
   go_wp2
   first | go_end0 | ((try simp only [Exit.inBlock, Exit.then]); refine bodyPost_ret (results_none rfl _ _ _) rfl ?_)
   exact ⟨rfl, ⟨blk_far HA4.out.bp (fun e => HNE.out e.symm) _, by simpa using blk_set HA4.out.bo 0 _, (by obtain ⟨w, hw, hl, hq⟩ := HA4.out.rd; exact ⟨w, hw, hl, hq.trans (Same.setCell _ _ _ (fun hk => by dsimp only at hk; omega))⟩), HA4.out.le⟩, HSAME.out.trans (Same.setCell _ _ _ (fun hk => by dsimp only at hk; omega))⟩
end Go.Proofs.Ytdinepghommchaa.V

-- Written by a program of this session over the kit's printer: wip/gp.py.
namespace Go.Proofs.Ytdinepghommchaa.V
open Go.RowKit Go.Proofs.YtdinepghommchaaW.PrintWords Go.Proofs.YtdinepghommchaaW.PrintLast Go.Proofs.YtdinepghommchaaW.PrintMore
attribute [local go_sem] max2_int min2_int max_two min_two max_three min_three max_four min_four   -- for this text's walks alone
set_option linter.unusedVariables false
set_option linter.unusedSimpArgs false

/-! ### veils_Count: function 17 -/
def veils_cnt.f (l : List Int) (n : Int) : Option Int := if 1 ≤ n ∧ n ≤ 5 then veils_all.f n.toNat (fun t k => veils_Count1.f l t k) 0 else none
mutual
def veils_Count.j0 : Nat → List Int → Int → Bool → Option (Int × Int)
 | 0, _, _, _ => none
 | k + 1, x1, x4, x22 => if x22 = true then (some (0, 2)) else (veils_Count.l0 k x1 x4 x1 (x1.length : Int) 0)
def veils_Count.l0 : Nat → List Int → Int → List Int → Int → Int → Option (Int × Int)
 | 0, _, _, _, _, _ => none
 | k + 1, x1, x4, x23, x24, x25 => if x25 < x24 then (if 0 ≤ x25 then (if x25 < (x23.length : Int) then (if (rd x23 x25) < 0 then (some (0, 2)) else (if (rd x23 x25) ≥ (x1.length : Int) then (some (0, 2)) else (if (rd x23 x25) = x25 then (some (0, 2)) else (if 0 ≤ (rd x23 x25) then (if (rd x23 x25) < (x1.length : Int) then (if (rd x1 (rd x23 x25)) = x25 then (veils_Count.l0 k x1 x4 x23 x24 (wrap64 (x25 + 1))) else (some (0, 2))) else (none)) else (none))))) else (none)) else (none)) else ((veils_cnt.f x1 x4).bind fun t103 => (some (t103, 0)))
end
def veils_Count.f (k : Nat) (l0 : List Int) : Option (Int × Int) := if ((l0.length : Int) % 2) = 1 then (veils_Count.j0 k l0 (wrap64 ((l0.length : Int) / 2)) true) else (if (wrap64 ((l0.length : Int) / 2)) < 1 then (veils_Count.j0 k l0 (wrap64 ((l0.length : Int) / 2)) true) else (veils_Count.j0 k l0 (wrap64 ((l0.length : Int) / 2)) (decide ((wrap64 ((l0.length : Int) / 2)) > 5))))
theorem veils_Count.mono_l : ∀ k, (∀ y0 y1 y2, LeO (veils_Count.j0 k y0 y1 y2) (veils_Count.j0 (k + 1) y0 y1 y2)) ∧ (∀ y0 y1 y2 y3 y4, LeO (veils_Count.l0 k y0 y1 y2 y3 y4) (veils_Count.l0 (k + 1) y0 y1 y2 y3 y4))
 | 0 => ⟨fun _ _ _ r h => by simp [veils_Count.j0] at h, fun _ _ _ _ _ r h => by simp [veils_Count.l0] at h⟩
 | k + 1 => by
  obtain ⟨ih0, ih1⟩ := veils_Count.mono_l k
  refine ⟨?_, ?_⟩
  · intro y0 y1 y2
    unfold veils_Count.j0
    repeat' first
    | (with_reducible exact ih0 _ _ _)
    | (with_reducible exact ih1 _ _ _ _ _)
    | (with_reducible exact LeO.refl _)
    | (with_reducible exact LeO.none _)
    | (with_reducible refine LeO.ite ?_ ?_)
    | (with_reducible refine LeO.bind ?_ (fun _ => ?_))
    | exact ih0 _ _ _
    | exact ih1 _ _ _ _ _
    | exact LeO.none _
    | refine LeO.ite ?_ ?_
    | refine LeO.bind ?_ (fun _ => ?_)
  · intro y0 y1 y2 y3 y4
    unfold veils_Count.l0
    repeat' first
    | (with_reducible exact ih0 _ _ _)
    | (with_reducible exact ih1 _ _ _ _ _)
    | (with_reducible exact LeO.refl _)
    | (with_reducible exact LeO.none _)
    | (with_reducible refine LeO.ite ?_ ?_)
    | (with_reducible refine LeO.bind ?_ (fun _ => ?_))
    | exact ih0 _ _ _
    | exact ih1 _ _ _ _ _
    | exact LeO.none _
    | refine LeO.ite ?_ ?_
    | refine LeO.bind ?_ (fun _ => ?_)
theorem veils_Count.mono : ∀ a0 k, LeO (veils_Count.f k a0) (veils_Count.f (k + 1) a0) := by
 intro a0 k
 obtain ⟨ih0, ih1⟩ := veils_Count.mono_l k
 unfold veils_Count.f
 repeat' first
  | (with_reducible exact ih0 _ _ _)
  | (with_reducible exact ih1 _ _ _ _ _)
  | (with_reducible exact LeO.refl _)
  | (with_reducible exact LeO.none _)
  | (with_reducible refine LeO.ite ?_ ?_)
  | (with_reducible refine LeO.bind ?_ (fun _ => ?_))
  | exact ih0 _ _ _
  | exact ih1 _ _ _ _ _
  | exact LeO.none _
  | refine LeO.ite ?_ ?_
  | refine LeO.bind ?_ (fun _ => ?_)
set_option maxHeartbeats 8000000 in
set_option maxRecDepth 100000 in
theorem veils_Count.calls (k : Nat) (A0 : Option Addr) (c0 : Nat) (l0 : List Int) (r1 : Int) (r2 : Int) (w : World) (hr0 : Kd.C (Kd.int .i64) w A0 l0.length l0) (hc0 : l0.length ≤ c0) (h : veils_Count.f k l0 = some (r1, r2)) :
 Calls Try.prog 17 #[.slice A0 l0.length c0] w fun e w' => e = .returned (.tuple #[.int .i64 r1, .int .i64 r2]) ∧ Below w.heap.size w w' := by
 have HR0 := Aside0.mk hr0
 have HC0 := Aside0.mk hc0
 clear hr0 hc0
 have HB := Aside0.mk (Below.refl w.heap.size w)
 have H : (if ((l0.length : Int) % 2) = 1 then (veils_Count.j0 k l0 (wrap64 ((l0.length : Int) / 2)) true) else (if (wrap64 ((l0.length : Int) / 2)) < 1 then (veils_Count.j0 k l0 (wrap64 ((l0.length : Int) / 2)) true) else (veils_Count.j0 k l0 (wrap64 ((l0.length : Int) / 2)) (decide ((wrap64 ((l0.length : Int) / 2)) > 5))))) = some (r1, r2) := h
 clear h
 have HC2 := Aside0.mk H
 clear H
 have hmf : ∀ (fn : Fn) (first cap : Array Value) (w : World), (Instr.makeFunc fn first cap).run Try.prog w = .ok (.func fn first cap) w := fun _ _ _ _ => rfl
 have HX : Aside0 ((w.alloc (.cells #[.slice A0 l0.length c0] 28)).heap[w.heap.size]? = some (.cells #[.slice A0 l0.length c0] 28 (0, 0))) := ⟨blk_new _ _⟩
 have hcell : (w.alloc (.cells #[.slice A0 l0.length c0] 28)).cell? ⟨w.heap.size, 0, none⟩ = some (.slice A0 l0.length c0) := by
  rw [World.cell?_alloc_at _ _ _ _ rfl]; rfl
 go_enter Try.func17, Try.ntmps17
 go_upto_region 2 with (fail)
 go_cut [22] (fun v22 wc => ∃ (kq : Nat) (x22_1 : Bool), v22 = .bool x22_1 ∧ Aside0 (veils_Count.j0 kq l0 (wrap64 ((l0.length : Int) / 2)) x22_1 = some (r1, r2)) ∧ Aside0 (kq ≤ k) ∧ Aside0 (Below w.heap.size w wc) ∧ Aside0 (wc.heap[w.heap.size]? = some (.cells #[.slice A0 l0.length c0] 28 (0, 0))))
 case first =>
  have H := HC2.out
  clear HC2
  by_cases c3 : ((l0.length : Int) % 2) = 1
  · rw [if_pos c3] at H
    have c3b0 : (((l0.length : Int) % 2) == 1) = true := beq_iff_eq.mpr c3
    have c3b1 : (((l0.length : Int) % 2) != 1) = false := bne_eq_false_iff_eq.mpr c3
    clear c3
    (first | rw [c3b0] | (simp only [i64_w, i32_w]; rw [c3b0]) | skip)
    have H' := Aside0.mk H
    clear H
    go_wp2
    go_meet
    case rel => exact ⟨_, (true), rf_, H', ⟨by first | omega | exact Nat.le_refl _⟩, ⟨bel_⟩, ⟨by (with_reducible repeat (first | exact HX.out | refine blk_drewN ?_ _ | refine blk_drew ?_ | refine blk_alloc ?_ _))⟩⟩
  · rw [if_neg c3] at H
    have c3b0 : (((l0.length : Int) % 2) == 1) = false := beq_eq_false_iff_ne.mpr c3
    have c3b1 : (((l0.length : Int) % 2) != 1) = true := bne_iff_ne.mpr c3
    (first | rw [c3b0] | (simp only [i64_w, i32_w]; rw [c3b0]) | skip)
    by_cases c4 : (wrap64 ((l0.length : Int) / 2)) < 1
    · rw [if_pos c4] at H
      have c4b0 : decide ((wrap64 ((l0.length : Int) / 2)) < 1) = true := decide_eq_true c4
      clear c4
      have H' := Aside0.mk H
      clear H
      go_wp2
      go_meet
      case rel => exact ⟨_, (true), rf_, H', ⟨by first | omega | exact Nat.le_refl _⟩, ⟨bel_⟩, ⟨by (with_reducible repeat (first | exact HX.out | refine blk_drewN ?_ _ | refine blk_drew ?_ | refine blk_alloc ?_ _))⟩⟩
    · rw [if_neg c4] at H
      have c4b0 : decide ((wrap64 ((l0.length : Int) / 2)) < 1) = false := decide_eq_false c4
      clear c4
      have H' := Aside0.mk H
      clear H
      go_wp2
      go_meet
      case rel => exact ⟨_, (decide ((wrap64 ((l0.length : Int) / 2)) > 5)), rf_, H', ⟨by first | omega | exact Nat.le_refl _⟩, ⟨bel_⟩, ⟨by (with_reducible repeat (first | exact HX.out | refine blk_drewN ?_ _ | refine blk_drew ?_ | refine blk_alloc ?_ _))⟩⟩
 case rest =>
  clear HC2
  try clear c1
  try clear p2
  try clear c3
  try clear c3b0
  try clear c3b1
  try clear c4
  try clear c4b0
  obtain ⟨kq, x22_1, rfl, HA, HJ1, HB, HX⟩ := hcut
  clear hcell
  have hcell := (blk_cell HX.out 0).trans (rfl : _ = some (Value.slice A0 l0.length c0))
  cases kq with
  | zero => exact absurd HA.out (by simp [veils_Count.j0])
  | succ kj1 =>
   have H := HA.out
   clear HA
   simp only [veils_Count.j0] at H
   by_cases c5 : x22_1 = true
   · subst c5
     have H1 : (some (0, 2)) = some (r1, r2) := by rw [if_pos rfl] at H; exact H
     clear H
     have H := H1
     clear H1
     simp only [Option.some.injEq, Prod.mk.injEq] at H
     obtain ⟨rfl, rfl⟩ := H
     go_wp2
     go_ret2
     exact ⟨er_, bel_⟩
   · replace c5 := Bool.eq_false_iff.mpr c5
     subst c5
     have H1 : (veils_Count.l0 kj1 l0 (wrap64 ((l0.length : Int) / 2)) l0 (l0.length : Int) 0) = some (r1, r2) := by rw [if_neg (show ¬ (false = true) by decide)] at H; exact H
     clear H
     have H := H1
     clear H1
     have H' := Aside0.mk H
     clear H
     go_wp2
     go_loopg [25] kj1 (fun kq v25 w' => ∃ (x25_2 : Int), v25 = .int .i64 x25_2 ∧ Aside0 (veils_Count.l0 kq l0 (wrap64 ((l0.length : Int) / 2)) l0 (l0.length : Int) x25_2 = some (r1, r2)) ∧ Aside0 (kq ≤ kj1) ∧ Aside0 (Below w.heap.size w w') ∧ Aside0 (w'.heap[w.heap.size]? = some (.cells #[.slice A0 l0.length c0] 28 (0, 0))))
     case atStart => exact ⟨(0), rf_, H', ⟨Nat.le_refl _⟩, ⟨bel_⟩, ⟨by (with_reducible repeat (first | exact HX.out | refine blk_drewN ?_ _ | refine blk_drew ?_ | refine blk_alloc ?_ _))⟩⟩
     case round =>
      clear H'
      try clear c1
      try clear p2
      try clear c3
      try clear c3b0
      try clear c3b1
      try clear c4
      try clear c4b0
      try clear c5
      try clear p2
      obtain ⟨x25_2, rfl, HA, HK2, HB, HX⟩ := hrel
      clear hcell
      have hcell := (blk_cell HX.out 0).trans (rfl : _ = some (Value.slice A0 l0.length c0))
      cases gk with
      | zero => exact absurd HA.out (by simp [veils_Count.l0])
      | succ k2 =>
       have H := HA.out
       clear HA
       simp only [veils_Count.l0] at H
       by_cases c6 : x25_2 < (l0.length : Int)
       · rw [if_pos c6] at H
         have c6b0 : decide (x25_2 < (l0.length : Int)) = true := decide_eq_true c6
         clear c6
         by_cases c7 : 0 ≤ x25_2
         · rw [if_pos c7] at H
           have c7b0 : decide (0 ≤ x25_2) = true := decide_eq_true c7
           clear c7
           by_cases c8 : x25_2 < (l0.length : Int)
           · rw [if_pos c8] at H
             have c8b0 : decide (x25_2 < (l0.length : Int)) = true := decide_eq_true c8
             clear c8
             by_cases c9 : (rd l0 x25_2) < 0
             · rw [if_pos c9] at H
               have c9b0 : decide ((rd l0 x25_2) < 0) = true := decide_eq_true c9
               clear c9
               simp only [Option.some.injEq, Prod.mk.injEq] at H
               obtain ⟨rfl, rfl⟩ := H
               have p101 : 0 ≤ (x25_2 : Int) := od_
               have q101 : x25_2 < (l0.length : Int) := od_
               obtain ⟨ad101, e101, hx101_0⟩ := Kd.at_int HR0.out x25_2 p101 q101
               cases e101
               replace hx101_0 := (HB.out.cell (World.block_lt_of_cell? w _ hx101_0)).trans hx101_0
               replace p101 := eq_true p101
               replace q101 := eq_true q101
               go_wp2
               go_ret2
               exact ⟨er_, bel_⟩
             · rw [if_neg c9] at H
               have c9b0 : decide ((rd l0 x25_2) < 0) = false := decide_eq_false c9
               clear c9
               by_cases c10 : (rd l0 x25_2) ≥ (l0.length : Int)
               · rw [if_pos c10] at H
                 have c10b0 : decide ((l0.length : Int) ≤ (rd l0 x25_2)) = true := decide_eq_true c10
                 clear c10
                 simp only [Option.some.injEq, Prod.mk.injEq] at H
                 obtain ⟨rfl, rfl⟩ := H
                 have p101 : 0 ≤ (x25_2 : Int) := od_
                 have q101 : x25_2 < (l0.length : Int) := od_
                 obtain ⟨ad101, e101, hx101_0⟩ := Kd.at_int HR0.out x25_2 p101 q101
                 cases e101
                 replace hx101_0 := (HB.out.cell (World.block_lt_of_cell? w _ hx101_0)).trans hx101_0
                 replace p101 := eq_true p101
                 replace q101 := eq_true q101
                 go_wp2
                 go_ret2
                 exact ⟨er_, bel_⟩
               · rw [if_neg c10] at H
                 have c10b0 : decide ((l0.length : Int) ≤ (rd l0 x25_2)) = false := decide_eq_false c10
                 clear c10
                 by_cases c11 : (rd l0 x25_2) = x25_2
                 · rw [if_pos c11] at H
                   have c11b0 : ((rd l0 x25_2) == x25_2) = true := beq_iff_eq.mpr c11
                   have c11b1 : ((rd l0 x25_2) != x25_2) = false := bne_eq_false_iff_eq.mpr c11
                   clear c11
                   simp only [Option.some.injEq, Prod.mk.injEq] at H
                   obtain ⟨rfl, rfl⟩ := H
                   have p101 : 0 ≤ (x25_2 : Int) := od_
                   have q101 : x25_2 < (l0.length : Int) := od_
                   obtain ⟨ad101, e101, hx101_0⟩ := Kd.at_int HR0.out x25_2 p101 q101
                   cases e101
                   replace hx101_0 := (HB.out.cell (World.block_lt_of_cell? w _ hx101_0)).trans hx101_0
                   replace p101 := eq_true p101
                   replace q101 := eq_true q101
                   go_wp2
                   go_ret2
                   exact ⟨er_, bel_⟩
                 · rw [if_neg c11] at H
                   have c11b0 : ((rd l0 x25_2) == x25_2) = false := beq_eq_false_iff_ne.mpr c11
                   have c11b1 : ((rd l0 x25_2) != x25_2) = true := bne_iff_ne.mpr c11
                   by_cases c12 : 0 ≤ (rd l0 x25_2)
                   · rw [if_pos c12] at H
                     have c12b0 : decide (0 ≤ (rd l0 x25_2)) = true := decide_eq_true c12
                     clear c12
                     by_cases c13 : (rd l0 x25_2) < (l0.length : Int)
                     · rw [if_pos c13] at H
                       have c13b0 : decide ((rd l0 x25_2) < (l0.length : Int)) = true := decide_eq_true c13
                       clear c13
                       by_cases c14 : (rd l0 (rd l0 x25_2)) = x25_2
                       · rw [if_pos c14] at H
                         have c14b0 : ((rd l0 (rd l0 x25_2)) == x25_2) = true := beq_iff_eq.mpr c14
                         have c14b1 : ((rd l0 (rd l0 x25_2)) != x25_2) = false := bne_eq_false_iff_eq.mpr c14
                         clear c14
                         have H' := Aside0.mk H
                         clear H
                         have p101 : 0 ≤ (x25_2 : Int) := od_
                         have q101 : x25_2 < (l0.length : Int) := od_
                         obtain ⟨ad101, e101, hx101_0⟩ := Kd.at_int HR0.out x25_2 p101 q101
                         cases e101
                         replace hx101_0 := (HB.out.cell (World.block_lt_of_cell? w _ hx101_0)).trans hx101_0
                         replace p101 := eq_true p101
                         replace q101 := eq_true q101
                         have p102 : 0 ≤ ((rd l0 x25_2) : Int) := od_
                         have q102 : (rd l0 x25_2) < (l0.length : Int) := od_
                         obtain ⟨ad102, e102, hx102_0⟩ := Kd.at_int HR0.out (rd l0 x25_2) p102 q102
                         obtain rfl : ad101 = ad102 := (by injection e102)
                         replace hx102_0 := (HB.out.cell (World.block_lt_of_cell? w _ hx102_0)).trans hx102_0
                         replace p102 := eq_true p102
                         replace q102 := eq_true q102
                         go_wp2
                         go_roundg k2
                         case measure => have := HJ1.out; have := HK2.out; omega
                         case rel => exact ⟨(wrap64 (x25_2 + 1)), rf_, H', ⟨by have := HJ1.out; have := HK2.out; omega⟩, ⟨bel_⟩, ⟨by (with_reducible repeat (first | exact HX.out | refine blk_drewN ?_ _ | refine blk_drew ?_ | refine blk_alloc ?_ _))⟩⟩
                       · rw [if_neg c14] at H
                         have c14b0 : ((rd l0 (rd l0 x25_2)) == x25_2) = false := beq_eq_false_iff_ne.mpr c14
                         have c14b1 : ((rd l0 (rd l0 x25_2)) != x25_2) = true := bne_iff_ne.mpr c14
                         simp only [Option.some.injEq, Prod.mk.injEq] at H
                         obtain ⟨rfl, rfl⟩ := H
                         have p101 : 0 ≤ (x25_2 : Int) := od_
                         have q101 : x25_2 < (l0.length : Int) := od_
                         obtain ⟨ad101, e101, hx101_0⟩ := Kd.at_int HR0.out x25_2 p101 q101
                         cases e101
                         replace hx101_0 := (HB.out.cell (World.block_lt_of_cell? w _ hx101_0)).trans hx101_0
                         replace p101 := eq_true p101
                         replace q101 := eq_true q101
                         have p102 : 0 ≤ ((rd l0 x25_2) : Int) := od_
                         have q102 : (rd l0 x25_2) < (l0.length : Int) := od_
                         obtain ⟨ad102, e102, hx102_0⟩ := Kd.at_int HR0.out (rd l0 x25_2) p102 q102
                         obtain rfl : ad101 = ad102 := (by injection e102)
                         replace hx102_0 := (HB.out.cell (World.block_lt_of_cell? w _ hx102_0)).trans hx102_0
                         replace p102 := eq_true p102
                         replace q102 := eq_true q102
                         go_wp2
                         go_ret2
                         exact ⟨er_, bel_⟩
                     · rw [if_neg c13] at H
                       exact absurd H (by simp)
                   · rw [if_neg c12] at H
                     exact absurd H (by simp)
           · rw [if_neg c8] at H
             exact absurd H (by simp)
         · rw [if_neg c7] at H
           exact absurd H (by simp)
       · rw [if_neg c6] at H
         have c6b0 : decide (x25_2 < (l0.length : Int)) = false := decide_eq_false c6
         clear c6
         replace H := Option.bind_eq_some_iff.mp H
         obtain ⟨t103, A150, H⟩ := H
         replace H : (some (t103, 0)) = some (r1, r2) := H
         have A15 := Aside0.mk A150
         clear A150
         simp only [Option.some.injEq, Prod.mk.injEq] at H
         obtain ⟨rfl, rfl⟩ := H
         have hz := A15.out
         unfold veils_cnt.f at hz
         by_cases cn : 1 ≤ wrap64 ((l0.length : Int) / 2) ∧ wrap64 ((l0.length : Int) / 2) ≤ 5
         rotate_left
         · rw [if_neg cn] at hz
           cases hz
         rw [if_pos cn] at hz
         obtain ⟨m, em⟩ := Int.eq_ofNat_of_zero_le (show 0 ≤ wrap64 ((l0.length : Int) / 2) by omega)
         have hm : wrap64 ((l0.length : Int) / 2) = (m : Int) := em
         rw [hm, Int.toNat_natCast] at hz
         rw [hm] at cn
         have HZ := Aside0.mk hz
         have HRD := Aside0.mk (show ∃ w0, Kd.C (Kd.int .i64) w0 A0 l0.length l0 ∧ w0.heap.size ≤ w.heap.size ∧ Same (fun k => k < w.heap.size) w0 wr from ⟨w, HR0.out, Nat.le_refl _, ⟨HB.out.os, HB.out.tape, HB.out.output, HB.out.size, fun k hk _ => HB.out.block k hk⟩⟩)
         have HM : Aside0 (∀ W1, W1.heap.size = wr.heap.size + 1 → Below wr.heap.size wr W1 → W1.heap[wr.heap.size]? = some (.cells #[.int .i64 0] 3 (0, 0)) → Calls Try.prog 41 #[.int .i64 (wrap64 ((l0.length : Int) / 2)), .func (.func 47) #[] #[.pointer (some ⟨w.heap.size, 0, none⟩), .pointer (some ⟨wr.heap.size, 0, none⟩)]] W1 fun e W' => e = .returned (.tuple #[]) ∧ W'.heap[wr.heap.size]? = some (.cells #[.int .i64 t103] 3 (0, 0)) ∧ Below w.heap.size w W') := ⟨fun W1 hsz hb1 hbo => by
           rw [hm]
           have h1 := HB.out.size
           have l1 := blk_lt HX.out
           have hF : Aside0 (∀ hi, W1.heap.size ≤ hi → Found w.heap.size W1.heap.size hi 47 #[.pointer (some ⟨w.heap.size, 0, none⟩), .pointer (some ⟨wr.heap.size, 0, none⟩)] (fun t k => veils_Count1.f l0 t k) ((fun _ => AccCount A0 c0 w.heap.size wr.heap.size w.heap.size l0) hi)) := ⟨fun hi hh =>
            ⟨fun W A c t a b hw hr hc ha h => veils_Count1.calls (lo0 := w.heap.size) (lo := W1.heap.size) (hi := hi) h1 (by omega) (by omega) (by omega) h1 l0 A0 c0 W A c t a b hw hr hc ha h, fun W W' a ha hs => AccCount.same ha (by omega) (by omega) (by omega) hs⟩⟩
           have hA : AccCount A0 c0 w.heap.size wr.heap.size w.heap.size l0 W1 0 := ⟨blk_below HX.out hb1, hbo, (by obtain ⟨w0, a1, a2, a3⟩ := HRD.out; exact ⟨w0, a1, a2, a3.trans (Same.of_below hb1)⟩), HC0.out⟩
           refine (veils_all.calls (lo0 := w.heap.size) (Acc := fun _ => AccCount A0 c0 w.heap.size wr.heap.size w.heap.size l0) (by omega) (by omega) Try.func47 (by kernel_rfl) rfl 0 t103 W1 hF (by omega) ⟨fun _ _ => hA⟩ ⟨HZ.out⟩).mono ?_
           rintro e W' ⟨rfl, ⟨hi, _, hacc⟩, hs⟩
           exact ⟨rfl, hacc.bo, HB.out.trans ⟨hs.os.trans hb1.os, hs.tape.trans hb1.tape, hs.output.trans hb1.output, Nat.le_trans hb1.size hs.size, fun k hk => (hs.block k hk (by omega)).trans (hb1.block k (by omega))⟩⟩⟩
         clear hz em hm cn hcell
         go_wp2_with (go_at_call 41; refine (HM.out _ (by simp) (by repeat (first | exact Below.refl _ _ | apply below_alloc | apply pw_below_drewN)) (by first | exact blk_new _ _ | exact blk_drewN (blk_new _ _) _)).mono ?_; rintro e w16 ⟨rfl, hbo, hb⟩; have co := (blk_cell hbo 0).trans (rfl : _ = some (Value.int .i64 t103)); clear HB; have HB := Aside0.mk hb; clear hb hbo)
         go_ret2
         exact ⟨er_, bel_⟩

end Go.Proofs.Ytdinepghommchaa.V

-- Written by a program of this session over the kit's printer: wip/gp.py.
namespace Go.Proofs.Ytdinepghommchaa.V
open Go.RowKit Go.Proofs.YtdinepghommchaaW.PrintWords Go.Proofs.YtdinepghommchaaW.PrintLast Go.Proofs.YtdinepghommchaaW.PrintMore
attribute [local go_sem] max2_int min2_int max_two min_two max_three min_three max_four min_four   -- for this text's walks alone
set_option linter.unusedVariables false
set_option linter.unusedSimpArgs false

/-! ### clocheref09_IsPairing: function 26 -/
mutual
def clocheref09_IsPairing.j0 : Nat → List Int → Bool → Option (Bool)
 | 0, _, _ => none
 | k + 1, x0, x17 => if x17 = true then (some false) else (clocheref09_IsPairing.l0 k x0 0)
def clocheref09_IsPairing.l0 : Nat → List Int → Int → Option (Bool)
 | 0, _, _ => none
 | k + 1, x0, x3 => if x3 < (x0.length : Int) then (if 0 ≤ x3 then (if (rd x0 x3) < 0 then (some false) else (if (rd x0 x3) ≥ (x0.length : Int) then (some false) else (if (rd x0 x3) = x3 then (some false) else (if 0 ≤ (rd x0 x3) then (if (rd x0 x3) < (x0.length : Int) then (if (rd x0 (rd x0 x3)) = x3 then (clocheref09_IsPairing.l0 k x0 (wrap64 (x3 + 1))) else (some false)) else (none)) else (none))))) else (none)) else (some true)
end
def clocheref09_IsPairing.f (k : Nat) (l0 : List Int) : Option (Bool) := if (l0.length : Int) < 2 then (clocheref09_IsPairing.j0 k l0 true) else (if (l0.length : Int) > 10 then (clocheref09_IsPairing.j0 k l0 true) else (clocheref09_IsPairing.j0 k l0 (((l0.length : Int) % 2) == 1)))
theorem clocheref09_IsPairing.mono_l : ∀ k, (∀ y0 y1, LeO (clocheref09_IsPairing.j0 k y0 y1) (clocheref09_IsPairing.j0 (k + 1) y0 y1)) ∧ (∀ y0 y1, LeO (clocheref09_IsPairing.l0 k y0 y1) (clocheref09_IsPairing.l0 (k + 1) y0 y1))
 | 0 => ⟨fun _ _ r h => by simp [clocheref09_IsPairing.j0] at h, fun _ _ r h => by simp [clocheref09_IsPairing.l0] at h⟩
 | k + 1 => by
  obtain ⟨ih0, ih1⟩ := clocheref09_IsPairing.mono_l k
  refine ⟨?_, ?_⟩
  · intro y0 y1
    unfold clocheref09_IsPairing.j0
    repeat' first
    | (with_reducible exact ih0 _ _)
    | (with_reducible exact ih1 _ _)
    | (with_reducible exact LeO.refl _)
    | (with_reducible exact LeO.none _)
    | (with_reducible refine LeO.ite ?_ ?_)
    | (with_reducible refine LeO.bind ?_ (fun _ => ?_))
    | exact ih0 _ _
    | exact ih1 _ _
    | exact LeO.none _
    | refine LeO.ite ?_ ?_
    | refine LeO.bind ?_ (fun _ => ?_)
  · intro y0 y1
    unfold clocheref09_IsPairing.l0
    repeat' first
    | (with_reducible exact ih0 _ _)
    | (with_reducible exact ih1 _ _)
    | (with_reducible exact LeO.refl _)
    | (with_reducible exact LeO.none _)
    | (with_reducible refine LeO.ite ?_ ?_)
    | (with_reducible refine LeO.bind ?_ (fun _ => ?_))
    | exact ih0 _ _
    | exact ih1 _ _
    | exact LeO.none _
    | refine LeO.ite ?_ ?_
    | refine LeO.bind ?_ (fun _ => ?_)
theorem clocheref09_IsPairing.mono : ∀ a0 k, LeO (clocheref09_IsPairing.f k a0) (clocheref09_IsPairing.f (k + 1) a0) := by
 intro a0 k
 obtain ⟨ih0, ih1⟩ := clocheref09_IsPairing.mono_l k
 unfold clocheref09_IsPairing.f
 repeat' first
  | (with_reducible exact ih0 _ _)
  | (with_reducible exact ih1 _ _)
  | (with_reducible exact LeO.refl _)
  | (with_reducible exact LeO.none _)
  | (with_reducible refine LeO.ite ?_ ?_)
  | (with_reducible refine LeO.bind ?_ (fun _ => ?_))
  | exact ih0 _ _
  | exact ih1 _ _
  | exact LeO.none _
  | refine LeO.ite ?_ ?_
  | refine LeO.bind ?_ (fun _ => ?_)
set_option maxHeartbeats 8000000 in
set_option maxRecDepth 100000 in
theorem clocheref09_IsPairing.calls (k : Nat) (A0 : Option Addr) (c0 : Nat) (l0 : List Int) (r : Bool) (w : World) (hr0 : Kd.C (Kd.int .i64) w A0 l0.length l0) (hc0 : l0.length ≤ c0) (h : clocheref09_IsPairing.f k l0 = some r) :
 Calls Try.prog 26 #[.slice A0 l0.length c0] w fun e w' => e = .returned (.bool r) ∧ Drawn0 w w' := by
 have HR0 := Aside0.mk hr0
 have HC0 := Aside0.mk hc0
 clear hr0 hc0
 have H : (if (l0.length : Int) < 2 then (clocheref09_IsPairing.j0 k l0 true) else (if (l0.length : Int) > 10 then (clocheref09_IsPairing.j0 k l0 true) else (clocheref09_IsPairing.j0 k l0 (((l0.length : Int) % 2) == 1)))) = some r := h
 clear h
 have HC2 := Aside0.mk H
 clear H
 go_enter Try.func26, Try.ntmps26
 go_upto_region 1 with (fail)
 go_cut [17] (fun v17 wc => ∃ (kq : Nat) (x17_1 : Bool), v17 = .bool x17_1 ∧ Aside0 (clocheref09_IsPairing.j0 kq l0 x17_1 = some r) ∧ Aside0 (kq ≤ k) ∧ Drawn0 w wc)
 case first =>
  have H := HC2.out
  clear HC2
  by_cases c3 : (l0.length : Int) < 2
  · rw [if_pos c3] at H
    have c3b0 : decide ((l0.length : Int) < 2) = true := decide_eq_true c3
    have c3b1 : decide (l0.length < 2) = true := decide_eq_true (by omega)
    clear c3
    (first | rw [c3b0] | (simp only [i64_w, i32_w]; rw [c3b0]) | skip)
    have H' := Aside0.mk H
    clear H
    go_wp2
    go_meet
    case rel => exact ⟨_, (true), rf_, H', ⟨by first | omega | exact Nat.le_refl _⟩, dr_⟩
  · rw [if_neg c3] at H
    have c3b0 : decide ((l0.length : Int) < 2) = false := decide_eq_false c3
    have c3b1 : decide (l0.length < 2) = false := decide_eq_false (by omega)
    clear c3
    (first | rw [c3b0] | (simp only [i64_w, i32_w]; rw [c3b0]) | skip)
    by_cases c4 : (l0.length : Int) > 10
    · rw [if_pos c4] at H
      have c4b0 : decide (10 < (l0.length : Int)) = true := decide_eq_true c4
      have c4b1 : decide (10 < l0.length) = true := decide_eq_true (by omega)
      clear c4
      have H' := Aside0.mk H
      clear H
      go_wp2
      go_meet
      case rel => exact ⟨_, (true), rf_, H', ⟨by first | omega | exact Nat.le_refl _⟩, dr_⟩
    · rw [if_neg c4] at H
      have c4b0 : decide (10 < (l0.length : Int)) = false := decide_eq_false c4
      have c4b1 : decide (10 < l0.length) = false := decide_eq_false (by omega)
      clear c4
      have H' := Aside0.mk H
      clear H
      go_wp2
      go_meet
      case rel => exact ⟨_, ((((l0.length : Int) % 2) == 1)), rf_, H', ⟨by first | omega | exact Nat.le_refl _⟩, dr_⟩
 case rest =>
  clear HC2
  try clear c2
  try clear p2
  try clear c3
  try clear c3b0
  try clear c3b1
  try clear c4
  try clear c4b0
  try clear c4b1
  obtain ⟨kq, x17_1, rfl, HA, HJ1, ⟨mc1, rfl⟩⟩ := hcut
  cases kq with
  | zero => exact absurd HA.out (by simp [clocheref09_IsPairing.j0])
  | succ kj1 =>
   have H := HA.out
   clear HA
   simp only [clocheref09_IsPairing.j0] at H
   by_cases c5 : x17_1 = true
   · subst c5
     have H1 : (some false) = some r := by rw [if_pos rfl] at H; exact H
     clear H
     have H := H1
     clear H1
     obtain rfl := Option.some.inj H
     go_wp2
     go_ret
     exact ⟨rf_, dr_⟩
   · replace c5 := Bool.eq_false_iff.mpr c5
     subst c5
     have H1 : (clocheref09_IsPairing.l0 kj1 l0 0) = some r := by rw [if_neg (show ¬ (false = true) by decide)] at H; exact H
     clear H
     have H := H1
     clear H1
     have H' := Aside0.mk H
     clear H
     go_wp2
     go_loopg [3] kj1 (fun kq v3 w' => ∃ (x3_2 : Int), v3 = .int .i64 x3_2 ∧ Aside0 (clocheref09_IsPairing.l0 kq l0 x3_2 = some r) ∧ Aside0 (kq ≤ kj1) ∧ Drawn0 w w')
     case atStart => exact ⟨(0), rf_, H', ⟨Nat.le_refl _⟩, dr_⟩
     case round =>
      clear H'
      try clear c1
      try clear c2
      try clear p2
      try clear c3
      try clear c3b0
      try clear c3b1
      try clear c4
      try clear c4b0
      try clear c4b1
      try clear c5
      try clear p2
      obtain ⟨x3_2, rfl, HA, HK2, ⟨m2, rfl⟩⟩ := hrel
      cases gk with
      | zero => exact absurd HA.out (by simp [clocheref09_IsPairing.l0])
      | succ k2 =>
       have H := HA.out
       clear HA
       simp only [clocheref09_IsPairing.l0] at H
       by_cases c6 : x3_2 < (l0.length : Int)
       · rw [if_pos c6] at H
         have c6b0 : decide (x3_2 < (l0.length : Int)) = true := decide_eq_true c6
         clear c6
         by_cases c7 : 0 ≤ x3_2
         · rw [if_pos c7] at H
           have c7b0 : decide (0 ≤ x3_2) = true := decide_eq_true c7
           clear c7
           by_cases c8 : (rd l0 x3_2) < 0
           · rw [if_pos c8] at H
             have c8b0 : decide ((rd l0 x3_2) < 0) = true := decide_eq_true c8
             clear c8
             obtain rfl := Option.some.inj H
             have p376 : 0 ≤ (x3_2 : Int) := od_
             have q376 : x3_2 < (l0.length : Int) := od_
             obtain ⟨ad376, e376, hx376_0⟩ := Kd.at_int HR0.out x3_2 p376 q376
             cases e376
             replace p376 := eq_true p376
             replace q376 := eq_true q376
             go_wp2
             go_ret
             exact ⟨rf_, dr_⟩
           · rw [if_neg c8] at H
             have c8b0 : decide ((rd l0 x3_2) < 0) = false := decide_eq_false c8
             clear c8
             by_cases c9 : (rd l0 x3_2) ≥ (l0.length : Int)
             · rw [if_pos c9] at H
               have c9b0 : decide ((l0.length : Int) ≤ (rd l0 x3_2)) = true := decide_eq_true c9
               clear c9
               obtain rfl := Option.some.inj H
               have p376 : 0 ≤ (x3_2 : Int) := od_
               have q376 : x3_2 < (l0.length : Int) := od_
               obtain ⟨ad376, e376, hx376_0⟩ := Kd.at_int HR0.out x3_2 p376 q376
               cases e376
               replace p376 := eq_true p376
               replace q376 := eq_true q376
               have p377 : 0 ≤ (x3_2 : Int) := od_
               have q377 : x3_2 < (l0.length : Int) := od_
               obtain ⟨ad377, e377, hx377_0⟩ := Kd.at_int HR0.out x3_2 p377 q377
               obtain rfl : ad376 = ad377 := (by injection e377)
               replace p377 := eq_true p377
               replace q377 := eq_true q377
               go_wp2
               go_ret
               exact ⟨rf_, dr_⟩
             · rw [if_neg c9] at H
               have c9b0 : decide ((l0.length : Int) ≤ (rd l0 x3_2)) = false := decide_eq_false c9
               clear c9
               by_cases c10 : (rd l0 x3_2) = x3_2
               · rw [if_pos c10] at H
                 have c10b0 : ((rd l0 x3_2) == x3_2) = true := beq_iff_eq.mpr c10
                 have c10b1 : ((rd l0 x3_2) != x3_2) = false := bne_eq_false_iff_eq.mpr c10
                 clear c10
                 obtain rfl := Option.some.inj H
                 have p376 : 0 ≤ (x3_2 : Int) := od_
                 have q376 : x3_2 < (l0.length : Int) := od_
                 obtain ⟨ad376, e376, hx376_0⟩ := Kd.at_int HR0.out x3_2 p376 q376
                 cases e376
                 replace p376 := eq_true p376
                 replace q376 := eq_true q376
                 have p377 : 0 ≤ (x3_2 : Int) := od_
                 have q377 : x3_2 < (l0.length : Int) := od_
                 obtain ⟨ad377, e377, hx377_0⟩ := Kd.at_int HR0.out x3_2 p377 q377
                 obtain rfl : ad376 = ad377 := (by injection e377)
                 replace p377 := eq_true p377
                 replace q377 := eq_true q377
                 have p378 : 0 ≤ (x3_2 : Int) := od_
                 have q378 : x3_2 < (l0.length : Int) := od_
                 obtain ⟨ad378, e378, hx378_0⟩ := Kd.at_int HR0.out x3_2 p378 q378
                 obtain rfl : ad376 = ad378 := (by injection e378)
                 replace p378 := eq_true p378
                 replace q378 := eq_true q378
                 go_wp2
                 go_ret
                 exact ⟨rf_, dr_⟩
               · rw [if_neg c10] at H
                 have c10b0 : ((rd l0 x3_2) == x3_2) = false := beq_eq_false_iff_ne.mpr c10
                 have c10b1 : ((rd l0 x3_2) != x3_2) = true := bne_iff_ne.mpr c10
                 by_cases c11 : 0 ≤ (rd l0 x3_2)
                 · rw [if_pos c11] at H
                   have c11b0 : decide (0 ≤ (rd l0 x3_2)) = true := decide_eq_true c11
                   clear c11
                   by_cases c12 : (rd l0 x3_2) < (l0.length : Int)
                   · rw [if_pos c12] at H
                     have c12b0 : decide ((rd l0 x3_2) < (l0.length : Int)) = true := decide_eq_true c12
                     clear c12
                     by_cases c13 : (rd l0 (rd l0 x3_2)) = x3_2
                     · rw [if_pos c13] at H
                       have c13b0 : ((rd l0 (rd l0 x3_2)) == x3_2) = true := beq_iff_eq.mpr c13
                       have c13b1 : ((rd l0 (rd l0 x3_2)) != x3_2) = false := bne_eq_false_iff_eq.mpr c13
                       clear c13
                       have H' := Aside0.mk H
                       clear H
                       have p376 : 0 ≤ (x3_2 : Int) := od_
                       have q376 : x3_2 < (l0.length : Int) := od_
                       obtain ⟨ad376, e376, hx376_0⟩ := Kd.at_int HR0.out x3_2 p376 q376
                       cases e376
                       replace p376 := eq_true p376
                       replace q376 := eq_true q376
                       have p377 : 0 ≤ (x3_2 : Int) := od_
                       have q377 : x3_2 < (l0.length : Int) := od_
                       obtain ⟨ad377, e377, hx377_0⟩ := Kd.at_int HR0.out x3_2 p377 q377
                       obtain rfl : ad376 = ad377 := (by injection e377)
                       replace p377 := eq_true p377
                       replace q377 := eq_true q377
                       have p378 : 0 ≤ (x3_2 : Int) := od_
                       have q378 : x3_2 < (l0.length : Int) := od_
                       obtain ⟨ad378, e378, hx378_0⟩ := Kd.at_int HR0.out x3_2 p378 q378
                       obtain rfl : ad376 = ad378 := (by injection e378)
                       replace p378 := eq_true p378
                       replace q378 := eq_true q378
                       have p379 : 0 ≤ (x3_2 : Int) := od_
                       have q379 : x3_2 < (l0.length : Int) := od_
                       obtain ⟨ad379, e379, hx379_0⟩ := Kd.at_int HR0.out x3_2 p379 q379
                       obtain rfl : ad376 = ad379 := (by injection e379)
                       replace p379 := eq_true p379
                       replace q379 := eq_true q379
                       have p380 : 0 ≤ ((rd l0 x3_2) : Int) := od_
                       have q380 : (rd l0 x3_2) < (l0.length : Int) := od_
                       obtain ⟨ad380, e380, hx380_0⟩ := Kd.at_int HR0.out (rd l0 x3_2) p380 q380
                       obtain rfl : ad376 = ad380 := (by injection e380)
                       replace p380 := eq_true p380
                       replace q380 := eq_true q380
                       go_wp2
                       go_roundg k2
                       case measure => have := HJ1.out; have := HK2.out; omega
                       case rel => exact ⟨(wrap64 (x3_2 + 1)), rf_, H', ⟨by have := HJ1.out; have := HK2.out; omega⟩, dr_⟩
                     · rw [if_neg c13] at H
                       have c13b0 : ((rd l0 (rd l0 x3_2)) == x3_2) = false := beq_eq_false_iff_ne.mpr c13
                       have c13b1 : ((rd l0 (rd l0 x3_2)) != x3_2) = true := bne_iff_ne.mpr c13
                       obtain rfl := Option.some.inj H
                       have p376 : 0 ≤ (x3_2 : Int) := od_
                       have q376 : x3_2 < (l0.length : Int) := od_
                       obtain ⟨ad376, e376, hx376_0⟩ := Kd.at_int HR0.out x3_2 p376 q376
                       cases e376
                       replace p376 := eq_true p376
                       replace q376 := eq_true q376
                       have p377 : 0 ≤ (x3_2 : Int) := od_
                       have q377 : x3_2 < (l0.length : Int) := od_
                       obtain ⟨ad377, e377, hx377_0⟩ := Kd.at_int HR0.out x3_2 p377 q377
                       obtain rfl : ad376 = ad377 := (by injection e377)
                       replace p377 := eq_true p377
                       replace q377 := eq_true q377
                       have p378 : 0 ≤ (x3_2 : Int) := od_
                       have q378 : x3_2 < (l0.length : Int) := od_
                       obtain ⟨ad378, e378, hx378_0⟩ := Kd.at_int HR0.out x3_2 p378 q378
                       obtain rfl : ad376 = ad378 := (by injection e378)
                       replace p378 := eq_true p378
                       replace q378 := eq_true q378
                       have p379 : 0 ≤ (x3_2 : Int) := od_
                       have q379 : x3_2 < (l0.length : Int) := od_
                       obtain ⟨ad379, e379, hx379_0⟩ := Kd.at_int HR0.out x3_2 p379 q379
                       obtain rfl : ad376 = ad379 := (by injection e379)
                       replace p379 := eq_true p379
                       replace q379 := eq_true q379
                       have p380 : 0 ≤ ((rd l0 x3_2) : Int) := od_
                       have q380 : (rd l0 x3_2) < (l0.length : Int) := od_
                       obtain ⟨ad380, e380, hx380_0⟩ := Kd.at_int HR0.out (rd l0 x3_2) p380 q380
                       obtain rfl : ad376 = ad380 := (by injection e380)
                       replace p380 := eq_true p380
                       replace q380 := eq_true q380
                       go_wp2
                       go_ret
                       exact ⟨rf_, dr_⟩
                   · rw [if_neg c12] at H
                     exact absurd H (by simp)
                 · rw [if_neg c11] at H
                   exact absurd H (by simp)
         · rw [if_neg c7] at H
           exact absurd H (by simp)
       · rw [if_neg c6] at H
         have c6b0 : decide (x3_2 < (l0.length : Int)) = false := decide_eq_false c6
         clear c6
         obtain rfl := Option.some.inj H
         go_wp2
         go_ret
         exact ⟨rf_, dr_⟩

end Go.Proofs.Ytdinepghommchaa.V

-- Written by a program of this session over the kit's printer: wip/gp.py.
namespace Go.Proofs.Ytdinepghommchaa.V
open Go.RowKit Go.Proofs.YtdinepghommchaaW.PrintWords Go.Proofs.YtdinepghommchaaW.PrintLast Go.Proofs.YtdinepghommchaaW.PrintMore
attribute [local go_sem] max2_int min2_int max_two min_two max_three min_three max_four min_four   -- for this text's walks alone
set_option linter.unusedVariables false
set_option linter.unusedSimpArgs false

/-! ### clochelaw09_crosses: function 27 -/
mutual
def clochelaw09_crosses.l0 : Nat → List Int → Int → Option (Bool)
 | 0, _, _ => none
 | k + 1, x0, x3 => if x3 < (x0.length : Int) then (clochelaw09_crosses.l1 k x0 x3 (wrap64 (x3 + 1))) else (some false)
def clochelaw09_crosses.l1 : Nat → List Int → Int → Int → Option (Bool)
 | 0, _, _, _ => none
 | k + 1, x0, x3, x4 => if 0 ≤ x3 then (if x3 < (x0.length : Int) then (if x4 < (rd x0 x3) then (if 0 ≤ x4 then (if x4 < (x0.length : Int) then (if (rd x0 x4) > (rd x0 x3) then (some true) else (clochelaw09_crosses.l1 k x0 x3 (wrap64 (x4 + 1)))) else (none)) else (none)) else (clochelaw09_crosses.l0 k x0 (wrap64 (x3 + 1)))) else (none)) else (none)
end
def clochelaw09_crosses.f (k : Nat) (l0 : List Int) : Option (Bool) := clochelaw09_crosses.l0 k l0 0
theorem clochelaw09_crosses.mono_l : ∀ k, (∀ y0 y1, LeO (clochelaw09_crosses.l0 k y0 y1) (clochelaw09_crosses.l0 (k + 1) y0 y1)) ∧ (∀ y0 y1 y2, LeO (clochelaw09_crosses.l1 k y0 y1 y2) (clochelaw09_crosses.l1 (k + 1) y0 y1 y2))
 | 0 => ⟨fun _ _ r h => by simp [clochelaw09_crosses.l0] at h, fun _ _ _ r h => by simp [clochelaw09_crosses.l1] at h⟩
 | k + 1 => by
  obtain ⟨ih0, ih1⟩ := clochelaw09_crosses.mono_l k
  refine ⟨?_, ?_⟩
  · intro y0 y1
    unfold clochelaw09_crosses.l0
    repeat' first
    | (with_reducible exact ih0 _ _)
    | (with_reducible exact ih1 _ _ _)
    | (with_reducible exact LeO.refl _)
    | (with_reducible exact LeO.none _)
    | (with_reducible refine LeO.ite ?_ ?_)
    | (with_reducible refine LeO.bind ?_ (fun _ => ?_))
    | exact ih0 _ _
    | exact ih1 _ _ _
    | exact LeO.none _
    | refine LeO.ite ?_ ?_
    | refine LeO.bind ?_ (fun _ => ?_)
  · intro y0 y1 y2
    unfold clochelaw09_crosses.l1
    repeat' first
    | (with_reducible exact ih0 _ _)
    | (with_reducible exact ih1 _ _ _)
    | (with_reducible exact LeO.refl _)
    | (with_reducible exact LeO.none _)
    | (with_reducible refine LeO.ite ?_ ?_)
    | (with_reducible refine LeO.bind ?_ (fun _ => ?_))
    | exact ih0 _ _
    | exact ih1 _ _ _
    | exact LeO.none _
    | refine LeO.ite ?_ ?_
    | refine LeO.bind ?_ (fun _ => ?_)
theorem clochelaw09_crosses.mono : ∀ a0 k, LeO (clochelaw09_crosses.f k a0) (clochelaw09_crosses.f (k + 1) a0) := by
 intro a0 k
 obtain ⟨ih0, ih1⟩ := clochelaw09_crosses.mono_l k
 unfold clochelaw09_crosses.f
 repeat' first
  | (with_reducible exact ih0 _ _)
  | (with_reducible exact ih1 _ _ _)
  | (with_reducible exact LeO.refl _)
  | (with_reducible exact LeO.none _)
  | (with_reducible refine LeO.ite ?_ ?_)
  | (with_reducible refine LeO.bind ?_ (fun _ => ?_))
  | exact ih0 _ _
  | exact ih1 _ _ _
  | exact LeO.none _
  | refine LeO.ite ?_ ?_
  | refine LeO.bind ?_ (fun _ => ?_)
set_option maxHeartbeats 8000000 in
set_option maxRecDepth 100000 in
theorem clochelaw09_crosses.calls (k : Nat) (A0 : Option Addr) (c0 : Nat) (l0 : List Int) (r : Bool) (w : World) (hr0 : Kd.C (Kd.int .i64) w A0 l0.length l0) (hc0 : l0.length ≤ c0) (h : clochelaw09_crosses.f k l0 = some r) :
 Calls Try.prog 27 #[.slice A0 l0.length c0] w fun e w' => e = .returned (.bool r) ∧ Drawn0 w w' := by
 have HR0 := Aside0.mk hr0
 have HC0 := Aside0.mk hc0
 clear hr0 hc0
 have H : (clochelaw09_crosses.l0 k l0 0) = some r := h
 clear h
 have H' := Aside0.mk H
 clear H
 go_enter Try.func27, Try.ntmps27
 go_wp2
 repeat (go_quiet (fail); try go_wp2)
 go_loopg [3] k (fun kq v3 w' => ∃ (x3_1 : Int), v3 = .int .i64 x3_1 ∧ Aside0 (clochelaw09_crosses.l0 kq l0 x3_1 = some r) ∧ Aside0 (kq ≤ k) ∧ Drawn0 w w')
 case atStart => exact ⟨(0), rf_, H', ⟨Nat.le_refl _⟩, dr_⟩
 case round =>
  clear H'
  obtain ⟨x3_1, rfl, HA, HK1, ⟨m1, rfl⟩⟩ := hrel
  cases gk with
  | zero => exact absurd HA.out (by simp [clochelaw09_crosses.l0])
  | succ k1 =>
    have H := HA.out
    clear HA
    simp only [clochelaw09_crosses.l0] at H
    by_cases c2 : x3_1 < (l0.length : Int)
    · rw [if_pos c2] at H
      have c2b0 : decide (x3_1 < (l0.length : Int)) = true := decide_eq_true c2
      clear c2
      have H' := Aside0.mk H
      clear H
      go_wp2
      repeat (go_quiet (fail); try go_wp2)
      go_loopg [4] k1 (fun kq v4 w' => ∃ (x4_2 : Int), v4 = .int .i64 x4_2 ∧ Aside0 (clochelaw09_crosses.l1 kq l0 x3_1 x4_2 = some r) ∧ Aside0 (kq ≤ k1) ∧ Drawn0 w w')
      case atStart => exact ⟨(wrap64 (x3_1 + 1)), rf_, H', ⟨Nat.le_refl _⟩, dr_⟩
      case round =>
       clear H'
       try clear c2
       try clear c2b0
       try clear p2
       obtain ⟨x4_2, rfl, HA, HK2, ⟨m2, rfl⟩⟩ := hrel
       cases gk with
       | zero => exact absurd HA.out (by simp [clochelaw09_crosses.l1])
       | succ k2 =>
        have H := HA.out
        clear HA
        simp only [clochelaw09_crosses.l1] at H
        by_cases c3 : 0 ≤ x3_1
        · rw [if_pos c3] at H
          have c3b0 : decide (0 ≤ x3_1) = true := decide_eq_true c3
          clear c3
          by_cases c4 : x3_1 < (l0.length : Int)
          · rw [if_pos c4] at H
            have c4b0 : decide (x3_1 < (l0.length : Int)) = true := decide_eq_true c4
            clear c4
            by_cases c5 : x4_2 < (rd l0 x3_1)
            · rw [if_pos c5] at H
              have c5b0 : decide (x4_2 < (rd l0 x3_1)) = true := decide_eq_true c5
              clear c5
              by_cases c6 : 0 ≤ x4_2
              · rw [if_pos c6] at H
                have c6b0 : decide (0 ≤ x4_2) = true := decide_eq_true c6
                clear c6
                by_cases c7 : x4_2 < (l0.length : Int)
                · rw [if_pos c7] at H
                  have c7b0 : decide (x4_2 < (l0.length : Int)) = true := decide_eq_true c7
                  clear c7
                  by_cases c8 : (rd l0 x4_2) > (rd l0 x3_1)
                  · rw [if_pos c8] at H
                    have c8b0 : decide ((rd l0 x3_1) < (rd l0 x4_2)) = true := decide_eq_true c8
                    clear c8
                    obtain rfl := Option.some.inj H
                    have p413 : 0 ≤ (x3_1 : Int) := od_
                    have q413 : x3_1 < (l0.length : Int) := od_
                    obtain ⟨ad413, e413, hx413_0⟩ := Kd.at_int HR0.out x3_1 p413 q413
                    cases e413
                    replace p413 := eq_true p413
                    replace q413 := eq_true q413
                    have p414 : 0 ≤ (x4_2 : Int) := od_
                    have q414 : x4_2 < (l0.length : Int) := od_
                    obtain ⟨ad414, e414, hx414_0⟩ := Kd.at_int HR0.out x4_2 p414 q414
                    obtain rfl : ad413 = ad414 := (by injection e414)
                    replace p414 := eq_true p414
                    replace q414 := eq_true q414
                    have p415 : 0 ≤ (x3_1 : Int) := od_
                    have q415 : x3_1 < (l0.length : Int) := od_
                    obtain ⟨ad415, e415, hx415_0⟩ := Kd.at_int HR0.out x3_1 p415 q415
                    obtain rfl : ad413 = ad415 := (by injection e415)
                    replace p415 := eq_true p415
                    replace q415 := eq_true q415
                    go_wp2
                    repeat (go_quiet (fail); try go_wp2)
                    go_ret
                    exact ⟨rf_, dr_⟩
                  · rw [if_neg c8] at H
                    have c8b0 : decide ((rd l0 x3_1) < (rd l0 x4_2)) = false := decide_eq_false c8
                    clear c8
                    have H' := Aside0.mk H
                    clear H
                    have p413 : 0 ≤ (x3_1 : Int) := od_
                    have q413 : x3_1 < (l0.length : Int) := od_
                    obtain ⟨ad413, e413, hx413_0⟩ := Kd.at_int HR0.out x3_1 p413 q413
                    cases e413
                    replace p413 := eq_true p413
                    replace q413 := eq_true q413
                    have p414 : 0 ≤ (x4_2 : Int) := od_
                    have q414 : x4_2 < (l0.length : Int) := od_
                    obtain ⟨ad414, e414, hx414_0⟩ := Kd.at_int HR0.out x4_2 p414 q414
                    obtain rfl : ad413 = ad414 := (by injection e414)
                    replace p414 := eq_true p414
                    replace q414 := eq_true q414
                    have p415 : 0 ≤ (x3_1 : Int) := od_
                    have q415 : x3_1 < (l0.length : Int) := od_
                    obtain ⟨ad415, e415, hx415_0⟩ := Kd.at_int HR0.out x3_1 p415 q415
                    obtain rfl : ad413 = ad415 := (by injection e415)
                    replace p415 := eq_true p415
                    replace q415 := eq_true q415
                    go_wp2
                    repeat (go_quiet (fail); try go_wp2)
                    go_roundg k2
                    case measure => have := HK1.out; have := HK2.out; omega
                    case rel => exact ⟨(wrap64 (x4_2 + 1)), rf_, H', ⟨by have := HK1.out; have := HK2.out; omega⟩, dr_⟩
                · rw [if_neg c7] at H
                  exact absurd H (by simp)
              · rw [if_neg c6] at H
                exact absurd H (by simp)
            · rw [if_neg c5] at H
              have c5b0 : decide (x4_2 < (rd l0 x3_1)) = false := decide_eq_false c5
              clear c5
              have H' := Aside0.mk H
              clear H
              have p413 : 0 ≤ (x3_1 : Int) := od_
              have q413 : x3_1 < (l0.length : Int) := od_
              obtain ⟨ad413, e413, hx413_0⟩ := Kd.at_int HR0.out x3_1 p413 q413
              cases e413
              replace p413 := eq_true p413
              replace q413 := eq_true q413
              go_wp2
              repeat (go_quiet (fail); try go_wp2)
              go_roundg k2
              case measure => have := HK1.out; have := HK2.out; omega
              case rel => exact ⟨(wrap64 (x3_1 + 1)), rf_, H', ⟨by have := HK1.out; have := HK2.out; omega⟩, dr_⟩
          · rw [if_neg c4] at H
            exact absurd H (by simp)
        · rw [if_neg c3] at H
          exact absurd H (by simp)
    · rw [if_neg c2] at H
      have c2b0 : decide (x3_1 < (l0.length : Int)) = false := decide_eq_false c2
      clear c2
      obtain rfl := Option.some.inj H
      go_wp2
      repeat (go_quiet (fail); try go_wp2)
      go_ret
      exact ⟨rf_, dr_⟩

end Go.Proofs.Ytdinepghommchaa.V

/- What Count and the specification's IsPairing answer: for a pairing of up to ten ends, how many of the listed veils have it; there are only so many pairings. -/
namespace Go.Proofs.Ytdinepghommchaa.V
open Go.RowKit Go.Proofs.YtdinepghommchaaW.PrintWords Go.Proofs.YtdinepghommchaaW.PrintLast Go.Proofs.YtdinepghommchaaW.PrintMore
def good (l : List Int) (m : Nat) : Prop := 0 ≤ l.getD m 0 ∧ l.getD m 0 < (l.length : Int) ∧ l.getD m 0 ≠ (m : Int) ∧ l.getD (l.getD m 0).toNat 0 = (m : Int)
/-- A list pairs off its ends. -/
structure Pr (l : List Int) : Prop where
 two : 2 ≤ l.length
 ten : l.length ≤ 10
 even : l.length % 2 = 0
 good : ∀ m, m < l.length → good l m
/-- How many of a list are this one. -/
def many (l : List Int) : List (List Int) → Nat
 | [] => 0
 | p :: ps => if p = l then many l ps + 1 else many l ps
/-- The pairings of the veils of a size. -/
def pairsOf : Nat → List (List Int)
 | 1 => pairs1
 | 2 => pairs2
 | 3 => pairs3
 | 4 => pairs4
 | 5 => pairs5
 | _ => []
end Go.Proofs.Ytdinepghommchaa.V

-- Written by a program of this session over the kit's printer: wip/gp.py.
namespace Go.Proofs.Ytdinepghommchaa.V
open Go.RowKit Go.Proofs.YtdinepghommchaaW.PrintWords Go.Proofs.YtdinepghommchaaW.PrintLast Go.Proofs.YtdinepghommchaaW.PrintMore
attribute [local go_sem] max2_int min2_int max_two min_two max_three min_three max_four min_four   -- for this text's walks alone
set_option linter.unusedVariables false
set_option linter.unusedSimpArgs false

/-! ### clochelaw09_few: function 21 -/
mutual
def clochelaw09_few.l0 : Nat → List (List (List Int)) → Int → Option (Bool)
 | 0, _, _ => none
 | k + 1, x0, x3 => if x3 < (x0.length : Int) then (if 0 ≤ x3 then (if ((rd_L2 x0 x3).length : Int) > 20 then (some false) else (clochelaw09_few.l1 k x0 x3 0)) else (none)) else (some true)
def clochelaw09_few.l1 : Nat → List (List (List Int)) → Int → Int → Option (Bool)
 | 0, _, _, _ => none
 | k + 1, x0, x3, x4 => if 0 ≤ x3 then (if x3 < (x0.length : Int) then (if x4 < ((rd_L2 x0 x3).length : Int) then (if 0 ≤ x4 then (if ((rd_L1 (rd_L2 x0 x3) x4).length : Int) > 20 then (some false) else (clochelaw09_few.l1 k x0 x3 (wrap64 (x4 + 1)))) else (none)) else (clochelaw09_few.l0 k x0 (wrap64 (x3 + 1)))) else (none)) else (none)
end
def clochelaw09_few.f (k : Nat) (l0 : List (List (List Int))) : Option (Bool) := clochelaw09_few.l0 k l0 0
theorem clochelaw09_few.mono_l : ∀ k, (∀ y0 y1, LeO (clochelaw09_few.l0 k y0 y1) (clochelaw09_few.l0 (k + 1) y0 y1)) ∧ (∀ y0 y1 y2, LeO (clochelaw09_few.l1 k y0 y1 y2) (clochelaw09_few.l1 (k + 1) y0 y1 y2))
 | 0 => ⟨fun _ _ r h => by simp [clochelaw09_few.l0] at h, fun _ _ _ r h => by simp [clochelaw09_few.l1] at h⟩
 | k + 1 => by
  obtain ⟨ih0, ih1⟩ := clochelaw09_few.mono_l k
  refine ⟨?_, ?_⟩
  · intro y0 y1
    unfold clochelaw09_few.l0
    repeat' first
    | (with_reducible exact ih0 _ _)
    | (with_reducible exact ih1 _ _ _)
    | (with_reducible exact LeO.refl _)
    | (with_reducible exact LeO.none _)
    | (with_reducible refine LeO.ite ?_ ?_)
    | (with_reducible refine LeO.bind ?_ (fun _ => ?_))
    | exact ih0 _ _
    | exact ih1 _ _ _
    | exact LeO.none _
    | refine LeO.ite ?_ ?_
    | refine LeO.bind ?_ (fun _ => ?_)
  · intro y0 y1 y2
    unfold clochelaw09_few.l1
    repeat' first
    | (with_reducible exact ih0 _ _)
    | (with_reducible exact ih1 _ _ _)
    | (with_reducible exact LeO.refl _)
    | (with_reducible exact LeO.none _)
    | (with_reducible refine LeO.ite ?_ ?_)
    | (with_reducible refine LeO.bind ?_ (fun _ => ?_))
    | exact ih0 _ _
    | exact ih1 _ _ _
    | exact LeO.none _
    | refine LeO.ite ?_ ?_
    | refine LeO.bind ?_ (fun _ => ?_)
theorem clochelaw09_few.mono : ∀ a0 k, LeO (clochelaw09_few.f k a0) (clochelaw09_few.f (k + 1) a0) := by
 intro a0 k
 obtain ⟨ih0, ih1⟩ := clochelaw09_few.mono_l k
 unfold clochelaw09_few.f
 repeat' first
  | (with_reducible exact ih0 _ _)
  | (with_reducible exact ih1 _ _ _)
  | (with_reducible exact LeO.refl _)
  | (with_reducible exact LeO.none _)
  | (with_reducible refine LeO.ite ?_ ?_)
  | (with_reducible refine LeO.bind ?_ (fun _ => ?_))
  | exact ih0 _ _
  | exact ih1 _ _ _
  | exact LeO.none _
  | refine LeO.ite ?_ ?_
  | refine LeO.bind ?_ (fun _ => ?_)
set_option maxHeartbeats 8000000 in
set_option maxRecDepth 100000 in
theorem clochelaw09_few.calls (k : Nat) (A0 : Option Addr) (c0 : Nat) (l0 : List (List (List Int))) (r : Bool) (w : World) (hr0 : Kd.C (Kd.slice 28 (Kd.slice 3 (Kd.int .i64))) w A0 l0.length l0) (hc0 : l0.length ≤ c0) (h : clochelaw09_few.f k l0 = some r) :
 Calls Try.prog 21 #[.slice A0 l0.length c0] w fun e w' => e = .returned (.bool r) ∧ Drawn0 w w' := by
 have HR0 := Aside0.mk hr0
 have HC0 := Aside0.mk hc0
 clear hr0 hc0
 have H : (clochelaw09_few.l0 k l0 0) = some r := h
 clear h
 have H' := Aside0.mk H
 clear H
 go_enter Try.func21, Try.ntmps21
 go_wp2
 go_loopg [3] k (fun kq v3 w' => ∃ (x3_1 : Int), v3 = .int .i64 x3_1 ∧ Aside0 (clochelaw09_few.l0 kq l0 x3_1 = some r) ∧ Aside0 (kq ≤ k) ∧ Drawn0 w w')
 case atStart => exact ⟨(0), rf_, H', ⟨Nat.le_refl _⟩, dr_⟩
 case round =>
  clear H'
  obtain ⟨x3_1, rfl, HA, HK1, ⟨m1, rfl⟩⟩ := hrel
  cases gk with
  | zero => exact absurd HA.out (by simp [clochelaw09_few.l0])
  | succ k1 =>
    have H := HA.out
    clear HA
    simp only [clochelaw09_few.l0] at H
    by_cases c2 : x3_1 < (l0.length : Int)
    · rw [if_pos c2] at H
      have c2b0 : decide (x3_1 < (l0.length : Int)) = true := decide_eq_true c2
      clear c2
      by_cases c3 : 0 ≤ x3_1
      · rw [if_pos c3] at H
        have c3b0 : decide (0 ≤ x3_1) = true := decide_eq_true c3
        clear c3
        by_cases c4 : ((rd_L2 l0 x3_1).length : Int) > 20
        · rw [if_pos c4] at H
          have c4b0 : decide (20 < ((rd_L2 l0 x3_1).length : Int)) = true := decide_eq_true c4
          have c4b1 : decide (20 < (rd_L2 l0 x3_1).length) = true := decide_eq_true (by omega)
          clear c4
          obtain rfl := Option.some.inj H
          have p247 : 0 ≤ (x3_1 : Int) := od_
          have q247 : x3_1 < (l0.length : Int) := od_
          obtain ⟨ad247, A247_0, c247_0, e247, hx247_0, hl247_0, hi247_0⟩ := at_L2 HR0.out x3_1 p247 q247
          cases e247
          have HR247_0 := Aside0.mk hi247_0
          have HC247_0 := Aside0.mk hl247_0
          clear hi247_0 hl247_0
          replace p247 := eq_true p247
          replace q247 := eq_true q247
          go_wp2
          go_ret
          exact ⟨rf_, dr_⟩
        · rw [if_neg c4] at H
          have c4b0 : decide (20 < ((rd_L2 l0 x3_1).length : Int)) = false := decide_eq_false c4
          have c4b1 : decide (20 < (rd_L2 l0 x3_1).length) = false := decide_eq_false (by omega)
          clear c4
          have H' := Aside0.mk H
          clear H
          have p247 : 0 ≤ (x3_1 : Int) := od_
          have q247 : x3_1 < (l0.length : Int) := od_
          obtain ⟨ad247, A247_0, c247_0, e247, hx247_0, hl247_0, hi247_0⟩ := at_L2 HR0.out x3_1 p247 q247
          cases e247
          have HR247_0 := Aside0.mk hi247_0
          have HC247_0 := Aside0.mk hl247_0
          clear hi247_0 hl247_0
          replace p247 := eq_true p247
          replace q247 := eq_true q247
          go_wp2
          go_loopg [4] k1 (fun kq v4 w' => ∃ (x4_2 : Int), v4 = .int .i64 x4_2 ∧ Aside0 (clochelaw09_few.l1 kq l0 x3_1 x4_2 = some r) ∧ Aside0 (kq ≤ k1) ∧ Drawn0 w w')
          case atStart => exact ⟨(0), rf_, H', ⟨Nat.le_refl _⟩, dr_⟩
          case round =>
           clear H'
           try clear c2
           try clear c2b0
           try clear p2
           try clear q2
           try clear hx2
           try clear c3
           try clear c3b0
           try clear c4
           try clear c4b0
           try clear c4b1
           try clear hx247_0
           try clear p247
           try clear q247
           obtain ⟨x4_2, rfl, HA, HK2, ⟨m2, rfl⟩⟩ := hrel
           cases gk with
           | zero => exact absurd HA.out (by simp [clochelaw09_few.l1])
           | succ k2 =>
            have H := HA.out
            clear HA
            simp only [clochelaw09_few.l1] at H
            by_cases c5 : 0 ≤ x3_1
            · rw [if_pos c5] at H
              have c5b0 : decide (0 ≤ x3_1) = true := decide_eq_true c5
              clear c5
              by_cases c6 : x3_1 < (l0.length : Int)
              · rw [if_pos c6] at H
                have c6b0 : decide (x3_1 < (l0.length : Int)) = true := decide_eq_true c6
                clear c6
                by_cases c7 : x4_2 < ((rd_L2 l0 x3_1).length : Int)
                · rw [if_pos c7] at H
                  have c7b0 : decide (x4_2 < ((rd_L2 l0 x3_1).length : Int)) = true := decide_eq_true c7
                  clear c7
                  by_cases c8 : 0 ≤ x4_2
                  · rw [if_pos c8] at H
                    have c8b0 : decide (0 ≤ x4_2) = true := decide_eq_true c8
                    clear c8
                    by_cases c9 : ((rd_L1 (rd_L2 l0 x3_1) x4_2).length : Int) > 20
                    · rw [if_pos c9] at H
                      have c9b0 : decide (20 < ((rd_L1 (rd_L2 l0 x3_1) x4_2).length : Int)) = true := decide_eq_true c9
                      have c9b1 : decide (20 < (rd_L1 (rd_L2 l0 x3_1) x4_2).length) = true := decide_eq_true (by omega)
                      clear c9
                      obtain rfl := Option.some.inj H
                      have p248 : 0 ≤ (x3_1 : Int) := od_
                      have q248 : x3_1 < (l0.length : Int) := od_
                      obtain ⟨ad248, A248_0, c248_0, e248, hx248_0, hl248_0, hi248_0⟩ := at_L2 HR0.out x3_1 p248 q248
                      obtain rfl : ad247 = ad248 := (by injection e248)
                      have HR248_0 := Aside0.mk hi248_0
                      have HC248_0 := Aside0.mk hl248_0
                      clear hi248_0 hl248_0
                      replace p248 := eq_true p248
                      replace q248 := eq_true q248
                      have p249 : 0 ≤ (x3_1 : Int) := od_
                      have q249 : x3_1 < (l0.length : Int) := od_
                      obtain ⟨ad249, A249_0, c249_0, e249, hx249_0, hl249_0, hi249_0⟩ := at_L2 HR0.out x3_1 p249 q249
                      obtain rfl : ad247 = ad249 := (by injection e249)
                      have HR249_0 := Aside0.mk hi249_0
                      have HC249_0 := Aside0.mk hl249_0
                      clear hi249_0 hl249_0
                      replace p249 := eq_true p249
                      replace q249 := eq_true q249
                      have ea_ := Option.some.inj (hx248_0.symm.trans hx249_0)
                      injection ea_ with ea_ en_ ec_
                      subst ea_
                      subst ec_
                      clear en_
                      have p250 : 0 ≤ (x4_2 : Int) := od_
                      have q250 : x4_2 < ((rd_L2 l0 x3_1).length : Int) := od_
                      obtain ⟨ad250, A250_0, c250_0, e250, hx250_0, hl250_0, hi250_0⟩ := at_L1 HR249_0.out x4_2 p250 q250
                      cases e250
                      have HR250_0 := Aside0.mk hi250_0
                      have HC250_0 := Aside0.mk hl250_0
                      clear hi250_0 hl250_0
                      replace p250 := eq_true p250
                      replace q250 := eq_true q250
                      go_wp2
                      go_ret
                      exact ⟨rf_, dr_⟩
                    · rw [if_neg c9] at H
                      have c9b0 : decide (20 < ((rd_L1 (rd_L2 l0 x3_1) x4_2).length : Int)) = false := decide_eq_false c9
                      have c9b1 : decide (20 < (rd_L1 (rd_L2 l0 x3_1) x4_2).length) = false := decide_eq_false (by omega)
                      clear c9
                      have H' := Aside0.mk H
                      clear H
                      have p248 : 0 ≤ (x3_1 : Int) := od_
                      have q248 : x3_1 < (l0.length : Int) := od_
                      obtain ⟨ad248, A248_0, c248_0, e248, hx248_0, hl248_0, hi248_0⟩ := at_L2 HR0.out x3_1 p248 q248
                      obtain rfl : ad247 = ad248 := (by injection e248)
                      have HR248_0 := Aside0.mk hi248_0
                      have HC248_0 := Aside0.mk hl248_0
                      clear hi248_0 hl248_0
                      replace p248 := eq_true p248
                      replace q248 := eq_true q248
                      have p249 : 0 ≤ (x3_1 : Int) := od_
                      have q249 : x3_1 < (l0.length : Int) := od_
                      obtain ⟨ad249, A249_0, c249_0, e249, hx249_0, hl249_0, hi249_0⟩ := at_L2 HR0.out x3_1 p249 q249
                      obtain rfl : ad247 = ad249 := (by injection e249)
                      have HR249_0 := Aside0.mk hi249_0
                      have HC249_0 := Aside0.mk hl249_0
                      clear hi249_0 hl249_0
                      replace p249 := eq_true p249
                      replace q249 := eq_true q249
                      have ea_ := Option.some.inj (hx248_0.symm.trans hx249_0)
                      injection ea_ with ea_ en_ ec_
                      subst ea_
                      subst ec_
                      clear en_
                      have p250 : 0 ≤ (x4_2 : Int) := od_
                      have q250 : x4_2 < ((rd_L2 l0 x3_1).length : Int) := od_
                      obtain ⟨ad250, A250_0, c250_0, e250, hx250_0, hl250_0, hi250_0⟩ := at_L1 HR249_0.out x4_2 p250 q250
                      cases e250
                      have HR250_0 := Aside0.mk hi250_0
                      have HC250_0 := Aside0.mk hl250_0
                      clear hi250_0 hl250_0
                      replace p250 := eq_true p250
                      replace q250 := eq_true q250
                      go_wp2
                      go_roundg k2
                      case measure => have := HK1.out; have := HK2.out; omega
                      case rel => exact ⟨(wrap64 (x4_2 + 1)), rf_, H', ⟨by have := HK1.out; have := HK2.out; omega⟩, dr_⟩
                  · rw [if_neg c8] at H
                    exact absurd H (by simp)
                · rw [if_neg c7] at H
                  have c7b0 : decide (x4_2 < ((rd_L2 l0 x3_1).length : Int)) = false := decide_eq_false c7
                  clear c7
                  have H' := Aside0.mk H
                  clear H
                  have p248 : 0 ≤ (x3_1 : Int) := od_
                  have q248 : x3_1 < (l0.length : Int) := od_
                  obtain ⟨ad248, A248_0, c248_0, e248, hx248_0, hl248_0, hi248_0⟩ := at_L2 HR0.out x3_1 p248 q248
                  obtain rfl : ad247 = ad248 := (by injection e248)
                  have HR248_0 := Aside0.mk hi248_0
                  have HC248_0 := Aside0.mk hl248_0
                  clear hi248_0 hl248_0
                  replace p248 := eq_true p248
                  replace q248 := eq_true q248
                  go_wp2
                  go_roundg k2
                  case measure => have := HK1.out; have := HK2.out; omega
                  case rel => exact ⟨(wrap64 (x3_1 + 1)), rf_, H', ⟨by have := HK1.out; have := HK2.out; omega⟩, dr_⟩
              · rw [if_neg c6] at H
                exact absurd H (by simp)
            · rw [if_neg c5] at H
              exact absurd H (by simp)
      · rw [if_neg c3] at H
        exact absurd H (by simp)
    · rw [if_neg c2] at H
      have c2b0 : decide (x3_1 < (l0.length : Int)) = false := decide_eq_false c2
      clear c2
      obtain rfl := Option.some.inj H
      go_wp2
      go_ret
      exact ⟨rf_, dr_⟩

end Go.Proofs.Ytdinepghommchaa.V

/- All pairings of up to ten ends, grown end by end; more rounds tell the same; few always answers. -/
namespace Go.Proofs.Ytdinepghommchaa.V
open Go.RowKit Go.Proofs.YtdinepghommchaaW.PrintWords Go.Proofs.YtdinepghommchaaW.PrintLast Go.Proofs.YtdinepghommchaaW.PrintMore
theorem lift_ {β : Type} {f : Nat → Option β} (hm : ∀ k, LeO (f k) (f (k + 1))) {r : β} {a : Nat} (h : f a = some r) : ∀ d, f (a + d) = some r
 | 0 => h
 | d + 1 => hm (a + d) r (lift_ hm h d)
theorem lift {β : Type} {f : Nat → Option β} (hm : ∀ k, LeO (f k) (f (k + 1))) {r : β} {a b : Nat} (h : f a = some r) (hab : a ≤ b) : f b = some r := by
 have := lift_ hm h (b - a)
 rwa [show a + (b - a) = b by omega] at this
/-- The last end of the beginning of a pairing fits those before it. -/
def okP (p : List Int) : Bool :=
 match p.length with
 | 0 => true
 | i + 1 => decide (p.getD i 0 ≠ (i : Int)) && (decide ((i : Int) ≤ p.getD i 0) || decide (p.getD (p.getD i 0).toNat 0 = (i : Int))) && (List.range i).all fun j => decide (p.getD j 0 ≠ p.getD i 0) && (decide (p.getD j 0 ≠ (i : Int)) || decide (p.getD i 0 = (j : Int)))
def prOf (n : Nat) : List (List Int) := grow ((List.range (2 * n)).map fun i : Nat => (i : Int)) okP (2 * n)
theorem Pr.mem {l : List Int} (h : Pr l) : l ∈ prOf (l.length / 2) := by
 obtain ⟨h2, h10, he, hg⟩ := h
 have e2 : 2 * (l.length / 2) = l.length := by omega
 unfold prOf
 rw [e2]
 have h1 : ∀ x ∈ l, x ∈ (List.range l.length).map fun i : Nat => (i : Int) := by
  intro x hx
  obtain ⟨i, hi, rfl⟩ := List.getElem_of_mem hx
  obtain ⟨a, b, _, _⟩ := hg i hi
  rw [List.getD_eq_getElem?_getD, List.getElem?_eq_getElem hi] at a b
  simp only [Option.getD_some] at a b
  rw [List.mem_map]
  exact ⟨l[i].toNat, List.mem_range.mpr (by omega), by omega⟩
 have tk : ∀ m i, i < m → (l.take m).getD i 0 = l.getD i 0 := fun m i hi => by
  rw [List.getD_eq_getElem?_getD, List.getElem?_take_of_lt hi, List.getD_eq_getElem?_getD]
 have := mem_grow (cands := (List.range l.length).map fun i : Nat => (i : Int)) (ok := okP) h1 (fun m hm => by
  unfold okP
  have hlen : (l.take m).length = m := by rw [List.length_take]; omega
  rw [hlen]
  cases m with
  | zero => rfl
  | succ i =>
   obtain ⟨a, b, c, d⟩ := hg i (by omega)
   dsimp only
   rw [tk (i + 1) i (by omega)]
   simp only [Bool.and_eq_true, Bool.or_eq_true, List.all_eq_true, decide_eq_true_eq]
   refine ⟨⟨c, ?_⟩, fun j hj => ?_⟩
   · by_cases cc : (i : Int) ≤ l.getD i 0
     · left; exact cc
     · right; rw [tk (i + 1) _ (by omega)]; exact d
   · have hj' : j < i := List.mem_range.mp hj
     obtain ⟨_, _, _, d'⟩ := hg j (by omega)
     rw [tk (i + 1) j (by omega)]
     refine ⟨fun hh => ?_, ?_⟩
     · rw [hh, d] at d'
       omega
     · by_cases e : l.getD j 0 = (i : Int)
       · right
         rw [e, Int.toNat_natCast] at d'
         exact d'
       · left; exact e) l.length (Nat.le_refl _)
 rwa [List.take_length] at this
def pairingsAll : List (List Int) := prOf 1 ++ prOf 2 ++ prOf 3 ++ prOf 4 ++ prOf 5
theorem few_l1 (L : List (List (List Int))) (i : Nat) (hi : i < L.length) (hL : L.length ≤ 20) (h20 : (rd_L2 L i).length ≤ 20) : ∀ d k x, x + d = (rd_L2 L i).length →
 clochelaw09_few.l1 (k + d + 1) L i x = some false ∨ clochelaw09_few.l1 (k + d + 1) L i x = clochelaw09_few.l0 k L (i + 1 : Nat)
 | 0, k, x, h => by
  right
  rw [Nat.add_zero, clochelaw09_few.l1, if_pos (by omega), if_pos (by omega), if_neg (by omega), wr_succ i (by omega)]
 | d + 1, k, x, h => by
  rw [show k + (d + 1) + 1 = (k + d + 1) + 1 from rfl, clochelaw09_few.l1, if_pos (by omega), if_pos (by omega), if_pos (by omega), if_pos (by omega)]
  by_cases c : ((rd_L1 (rd_L2 L i) x).length : Int) > 20
  · left; rw [if_pos c]
  · rw [if_neg c, wr_succ x (by omega)]
    exact few_l1 L i hi hL h20 d k (x + 1) (by omega)
theorem few_l0 (L : List (List (List Int))) (hL : L.length ≤ 20) : ∀ d k i, i + d = L.length →
 ∃ b, clochelaw09_few.l0 (k + d * 22 + 1) L i = some b
 | 0, k, i, h => by
  refine ⟨true, ?_⟩
  rw [show k + 0 * 22 + 1 = k + 1 by omega, clochelaw09_few.l0, if_neg (by omega)]
 | d + 1, k, i, h => by
  rw [show k + (d + 1) * 22 + 1 = (k + d * 22 + 22) + 1 by omega, clochelaw09_few.l0, if_pos (by omega), if_pos (by omega)]
  by_cases c : ((rd_L2 L i).length : Int) > 20
  · rw [if_pos c]; exact ⟨_, rfl⟩
  · rw [if_neg c]
    have h1 := few_l1 L i (by omega) hL (by omega) (rd_L2 L i).length (k + d * 22 + 21 - (rd_L2 L i).length) 0 (by omega)
    rw [show k + d * 22 + 21 - (rd_L2 L i).length + (rd_L2 L i).length + 1 = k + d * 22 + 22 by omega, show ((0 : Nat) : Int) = 0 from rfl] at h1
    rcases h1 with h1 | h1
    · exact ⟨_, h1⟩
    · rw [h1]
      have := few_l0 L hL d (k + 20 - (rd_L2 L i).length) (i + 1) (by omega)
      rwa [show k + 20 - (rd_L2 L i).length + d * 22 + 1 = k + d * 22 + 21 - (rd_L2 L i).length by omega] at this
theorem few_spec (L : List (List (List Int))) (hL : L.length ≤ 20) : ∃ b, clochelaw09_few.f 500 L = some b := by
 have := few_l0 L hL L.length (499 - L.length * 22) 0 (by omega)
 rw [show 499 - L.length * 22 + L.length * 22 + 1 = 500 by omega, show ((0 : Nat) : Int) = 0 from rfl] at this
 exact this
end Go.Proofs.Ytdinepghommchaa.V

-- Written by a program of this session over the kit's printer: wip/gp.py.
namespace Go.Proofs.Ytdinepghommchaa.V
open Go.RowKit Go.Proofs.YtdinepghommchaaW.PrintWords Go.Proofs.YtdinepghommchaaW.PrintLast Go.Proofs.YtdinepghommchaaW.PrintMore
attribute [local go_sem] max2_int min2_int max_two min_two max_three min_three max_four min_four   -- for this text's walks alone
set_option linter.unusedVariables false
set_option linter.unusedSimpArgs false

/-! ### veils_Heights: function 28 -/
def veils_Heights.f (k : Nat) (l0 : List (List Int)) : Option ((List (List Int)) × Int) := (veils_read.f k l0).bind fun bt128 => (if bt128.2 = true then ((veils_raised.f bt128.1).bind fun t132 => (some (t132, 0))) else (some (([] : List (List Int)), 2)))
theorem veils_Heights.mono : ∀ a0 k, LeO (veils_Heights.f k a0) (veils_Heights.f (k + 1) a0) := by
 intro a0 k
 unfold veils_Heights.f
 repeat' first
  | (with_reducible exact veils_read.mono _ _)
  | (with_reducible exact LeO.refl _)
  | (with_reducible exact LeO.none _)
  | (with_reducible refine LeO.ite ?_ ?_)
  | (with_reducible refine LeO.bind ?_ (fun _ => ?_))
  | exact veils_read.mono _ _
  | exact LeO.none _
  | refine LeO.ite ?_ ?_
  | refine LeO.bind ?_ (fun _ => ?_)
set_option maxHeartbeats 8000000 in
set_option maxRecDepth 100000 in
theorem veils_Heights.calls (k : Nat) (A0 : Option Addr) (c0 : Nat) (l0 : List (List Int)) (r1 : List (List Int)) (r2 : Int) (w : World) (hr0 : Kd.C (Kd.slice 3 (Kd.int .i64)) w A0 l0.length l0) (hc0 : l0.length ≤ c0) (h : veils_Heights.f k l0 = some (r1, r2)) :
 Calls Try.prog 28 #[.slice A0 l0.length c0] w fun e w' => ∃ v0_ : Value, e = .returned (.tuple #[v0_, .int .i64 r2]) ∧ Kd.S (Kd.slice 3 (Kd.int .i64)) 28 w' w.heap.size (fun _ => True) v0_ r1 ∧ Below w.heap.size w w' := by
 have HR0 := Aside0.mk hr0
 have HC0 := Aside0.mk hc0
 clear hr0 hc0
 have HB := Aside0.mk (Below.refl w.heap.size w)
 have H : ((veils_read.f k l0).bind fun bt128 => (if bt128.2 = true then ((veils_raised.f bt128.1).bind fun t132 => (some (t132, 0))) else (some (([] : List (List Int)), 2)))) = some (r1, r2) := h
 clear h
 replace H := Option.bind_eq_some_iff.mp H
 obtain ⟨⟨t128, t131⟩, A20, H⟩ := H
 replace H : (if t131 = true then ((veils_raised.f t128).bind fun t132 => (some (t132, 0))) else (some (([] : List (List Int)), 2))) = some (r1, r2) := H
 have A2 := Aside0.mk A20
 clear A20
 by_cases c3 : t131 = true
 · subst c3
   have H1 : ((veils_raised.f t128).bind fun t132 => (some (t132, 0))) = some (r1, r2) := by rw [if_pos rfl] at H; exact H
   clear H
   have H := H1
   clear H1
   replace H := Option.bind_eq_some_iff.mp H
   obtain ⟨t132, A40, H⟩ := H
   replace H : (some (t132, 0)) = some (r1, r2) := H
   have A4 := Aside0.mk A40
   clear A40
   simp only [Option.some.injEq, Prod.mk.injEq] at H
   obtain ⟨rfl, rfl⟩ := H
   go_enter Try.func28, Try.ntmps28
   go_wp2_with (first | ((with_reducible refine gate_callee (f := 51) rfl ?_); refine goesL_ (some 8) rfl rfl Try.func51 (by kernel_rfl) rfl #[.slice A0 l0.length c0] rfl ar_ ?_; (with_reducible refine (veils_read.calls k (fun k_ => k_ < w.heap.size) _ _ l0 t128 true _ ?side1 A2.out).mono ?_); (case side1 => exact Kd.V_mk HC0.out (Kd.F_below (Kd.C_F (Kd.heap_slice 3 (Kd.heap_int .i64)) HR0.out) (bel_))); rintro e w5 ⟨v129, rfl, ho0, hb⟩; refine ⟨_, rfl, ?_⟩; have n0_ := Aside0.mk (Kd.V_lower (Kd.V_mono (ok' := fun k_ => True) ho0 (fun k_ hk_ => trivial)) (below_size (bel_))); have n1_ := Aside0.mk (below_step (bel_) hb); clear HB; have HO130 := n0_; have HB := n1_; clear n0_ n1_; (try clear hb); (try clear hb2); (try clear hk); (try clear hi); (try clear ho0); obtain ⟨Ao6, co6, eo6⟩ := Kd.V_slice HO130.out; subst eo6) | ((with_reducible refine gate_callee (f := 49) rfl ?_); refine goesL_ (some 15) rfl rfl Try.func49 (by kernel_rfl) rfl #[.iface 49 (.slice Ao6 t128.length co6)] rfl ar_ ?_; (with_reducible refine (veils_raised.calls _ _ t128 t132 _ ?side1 ?side2 A4.out).mono ?_); (case side1 => repeat (first | exact (Kd.V_reads' HO130.out).2.2 | (with_reducible refine Kd.C_alloc ?_ _) | (with_reducible refine Kd.C_drewN ?_ _) | (with_reducible refine Kd.C_drew ?_))); (case side2 => exact (Kd.V_reads' HO130.out).2.1); rintro e w7 ⟨v133, rfl, ho0, hb⟩; refine ⟨_, rfl, ?_⟩; have n0_ := Aside0.mk (Kd.V_elder' (nV_ HO130.out) (Kd.S_base ho0) hb); have n1_ := Aside0.mk (Kd.S_lower ho0 (below_size (bel_))); have n2_ := Aside0.mk (below_step (bel_) hb); clear HO130; clear HB; have HO130 := n0_; have HO134 := n1_; have HB := n2_; clear n0_ n1_ n2_; (try clear hb); (try clear hb2); (try clear hk); (try clear hi); (try clear ho0)))
   go_ret2
   exact ⟨_, er_, by (with_reducible repeat (first | apply Kd.S_alloc | apply Kd.S_drewN | apply Kd.S_drew)); exact HO134.out, bel_⟩
 · replace c3 := Bool.eq_false_iff.mpr c3
   subst c3
   have H1 : (some (([] : List (List Int)), 2)) = some (r1, r2) := by rw [if_neg (show ¬ (false = true) by decide)] at H; exact H
   clear H
   have H := H1
   clear H1
   simp only [Option.some.injEq, Prod.mk.injEq] at H
   obtain ⟨rfl, rfl⟩ := H
   go_enter Try.func28, Try.ntmps28
   go_wp2_with (first | ((with_reducible refine gate_callee (f := 51) rfl ?_); refine goesL_ (some 8) rfl rfl Try.func51 (by kernel_rfl) rfl #[.slice A0 l0.length c0] rfl ar_ ?_; (with_reducible refine (veils_read.calls k (fun k_ => k_ < w.heap.size) _ _ l0 t128 false _ ?side1 A2.out).mono ?_); (case side1 => exact Kd.V_mk HC0.out (Kd.F_below (Kd.C_F (Kd.heap_slice 3 (Kd.heap_int .i64)) HR0.out) (bel_))); rintro e w8 ⟨v129, rfl, ho0, hb⟩; refine ⟨_, rfl, ?_⟩; have n0_ := Aside0.mk (Kd.V_lower (Kd.V_mono (ok' := fun k_ => True) ho0 (fun k_ hk_ => trivial)) (below_size (bel_))); have n1_ := Aside0.mk (below_step (bel_) hb); clear HB; have HO130 := n0_; have HB := n1_; clear n0_ n1_; (try clear hb); (try clear hb2); (try clear hk); (try clear hi); (try clear ho0)))
   go_ret2
   exact ⟨_, er_, by first | exact Kd.S_nil _ _ _ _ _ | exact Kd.N_nil _ _ _ _ _ | exact Kd.V_nil _ _ _ _ _ | exact Kd.Q_nil _ _ _ _ _ | exact Kd.R_nil _ _ _ _ _, bel_⟩

end Go.Proofs.Ytdinepghommchaa.V

-- Written by a program of this session over the kit's printer: wip/gp.py.
namespace Go.Proofs.Ytdinepghommchaa.V
open Go.RowKit Go.Proofs.YtdinepghommchaaW.PrintWords Go.Proofs.YtdinepghommchaaW.PrintLast Go.Proofs.YtdinepghommchaaW.PrintMore
attribute [local go_sem] max2_int min2_int max_two min_two max_three min_three max_four min_four   -- for this text's walks alone
set_option linter.unusedVariables false
set_option linter.unusedSimpArgs false

/-! ### clochelaw09_cross: function 44 -/
def clochelaw09_cross.f  : Option ((List (List Int))) := some (([(([0, 1, 0] : List Int)), (([1, (-1), 1] : List Int)), (([0, 1, 0] : List Int))] : List (List Int)))
set_option maxHeartbeats 8000000 in
set_option maxRecDepth 100000 in
theorem clochelaw09_cross.calls  (r : List (List Int)) (w : World) (h : clochelaw09_cross.f  = some r) :
 Calls Try.prog 44 #[] w fun e w' => ∃ v0_ : Value, e = .returned (v0_) ∧ Kd.N (Kd.slice 3 (Kd.int .i64)) 28 w' w.heap.size (fun k_ => (w.heap.size ≤ k_)) v0_ r ∧ Below w.heap.size w w' := by
 have HB := Aside0.mk (Below.refl w.heap.size w)
 have H : (some (([(([0, 1, 0] : List Int)), (([1, (-1), 1] : List Int)), (([0, 1, 0] : List Int))] : List (List Int)))) = some r := h
 clear h
 obtain ⟨y154, hy154⟩ : ∃ y_ : List Int, y_ = (([0, 1, 0] : List Int)) := ⟨_, rfl⟩
 replace H : (some (([y154, (([1, (-1), 1] : List Int)), (([0, 1, 0] : List Int))] : List (List Int)))) = some r := by first | (rw [hy154]; with_reducible exact H) | (have H2_ := (Option.bind_some _ _).symm.trans H; rw [hy154]; with_reducible exact H2_) | (have H2_ := (Option.bind_some _ _).symm.trans H; with_reducible exact H2_) | with_reducible exact H | (rw [hy154]; exact H) | exact H
 have Ny154 := Aside0.mk hy154
 clear hy154
 obtain ⟨y157, hy157⟩ : ∃ y_ : List Int, y_ = (([1, (-1), 1] : List Int)) := ⟨_, rfl⟩
 replace H : (some (([y154, y157, (([0, 1, 0] : List Int))] : List (List Int)))) = some r := by first | (rw [hy157]; with_reducible exact H) | (have H2_ := (Option.bind_some _ _).symm.trans H; rw [hy157]; with_reducible exact H2_) | (have H2_ := (Option.bind_some _ _).symm.trans H; with_reducible exact H2_) | with_reducible exact H | (rw [hy157]; exact H) | exact H
 have Ny157 := Aside0.mk hy157
 clear hy157
 obtain ⟨y160, hy160⟩ : ∃ y_ : List Int, y_ = (([0, 1, 0] : List Int)) := ⟨_, rfl⟩
 replace H : (some (([y154, y157, y160] : List (List Int)))) = some r := by first | (rw [hy160]; with_reducible exact H) | (have H2_ := (Option.bind_some _ _).symm.trans H; rw [hy160]; with_reducible exact H2_) | (have H2_ := (Option.bind_some _ _).symm.trans H; with_reducible exact H2_) | with_reducible exact H | (rw [hy160]; exact H) | exact H
 have Ny160 := Aside0.mk hy160
 clear hy160
 obtain ⟨y163, hy163⟩ : ∃ y_ : List (List Int), y_ = (([y154, y157, y160] : List (List Int))) := ⟨_, rfl⟩
 replace H : (some y163) = some r := by first | (rw [hy163]; with_reducible exact H) | (have H2_ := (Option.bind_some _ _).symm.trans H; rw [hy163]; with_reducible exact H2_) | (have H2_ := (Option.bind_some _ _).symm.trans H; with_reducible exact H2_) | with_reducible exact H | (rw [hy163]; exact H) | exact H
 have Ny163 := Aside0.mk hy163
 clear hy163
 obtain rfl := Option.some.inj H
 go_enter Try.func44, Try.ntmps44
 go_wp2_with (first | ((with_reducible refine gate_dst (N := 1) rfl ?_); refine Kd.R_lit (Kd.int .i64) _ 3 ?hg (N := 1) ?hd (xs := ([0, 1, 0] : List Int)) (inner := [.int .i64 0, .int .i64 1, .int .i64 0]) (ok := fun _ => True) (okp := fun _ => True) ?hr ?hp (fun _ hk => hk) trivial (Below.refl _ _) (Nat.le_refl _) (by simp) ?_; (case hd => rfl); (case hg => rfl); (case hr => first | (go_simp; done) | (go_simp; rfl)); (case hp => exact (Reps.one (show Kd.M (Kd.int .i64) _ _ _ 0 [.int .i64 0] from rfl) (Reps.one (show Kd.M (Kd.int .i64) _ _ _ 1 [.int .i64 1] from rfl) (Reps.one (show Kd.M (Kd.int .i64) _ _ _ 0 [.int .i64 0] from rfl) (Reps.none _ _))))); intro v155 w1 ho2 hb hg_ hnew_; clear hg_ hnew_; (first | rw [← Ny154.out] at ho2 | (simp only [Int.reduceToNat] at ho2; rw [← Ny154.out] at ho2)); have n0_ := Aside0.mk (Kd.R_lower (Kd.R_newM (M := fun k_ => (w.heap.size ≤ k_)) ho2 (below_size (bel_)) (fun k_ h_ => h_)) (below_size (bel_))); have n1_ := Aside0.mk (below_step (bel_) hb); clear HB; have HO156 := n0_; have HB := n1_; clear n0_ n1_; clear hb ho2) | ((with_reducible refine gate_dst (N := 2) rfl ?_); refine Kd.R_lit (Kd.int .i64) _ 3 ?hg (N := 2) ?hd (xs := ([1, (-1), 1] : List Int)) (inner := [.int .i64 1, .int .i64 (-1), .int .i64 1]) (ok := fun _ => True) (okp := fun _ => True) ?hr ?hp (fun _ hk => hk) trivial (Below.refl _ _) (Nat.le_refl _) (by simp) ?_; (case hd => rfl); (case hg => rfl); (case hr => first | (go_simp; done) | (go_simp; rfl)); (case hp => exact (Reps.one (show Kd.M (Kd.int .i64) _ _ _ 1 [.int .i64 1] from rfl) (Reps.one (show Kd.M (Kd.int .i64) _ _ _ (-1) [.int .i64 (-1)] from rfl) (Reps.one (show Kd.M (Kd.int .i64) _ _ _ 1 [.int .i64 1] from rfl) (Reps.none _ _))))); intro v158 w3 ho4 hb hg_ hnew_; clear hg_ hnew_; (first | rw [← Ny157.out] at ho4 | (simp only [Int.reduceToNat] at ho4; rw [← Ny157.out] at ho4)); have n0_ := Aside0.mk (Kd.R_elder' (nR_ HO156.out) (Kd.R_base ho4) hb); have n1_ := Aside0.mk (Kd.R_lower (Kd.R_new' (Kd.R_newM (M := fun k_ => (w.heap.size ≤ k_)) ho4 (below_size (bel_)) (fun k_ h_ => h_)) (Kd.R_lt (nR_ HO156.out))) (below_size (bel_))); have n2_ := Aside0.mk (below_step (bel_) hb); clear HO156; clear HB; have HO156 := n0_; have HO159 := n1_; have HB := n2_; clear n0_ n1_ n2_; clear hb ho4) | ((with_reducible refine gate_dst (N := 3) rfl ?_); refine Kd.R_lit (Kd.int .i64) _ 3 ?hg (N := 3) ?hd (xs := ([0, 1, 0] : List Int)) (inner := [.int .i64 0, .int .i64 1, .int .i64 0]) (ok := fun _ => True) (okp := fun _ => True) ?hr ?hp (fun _ hk => hk) trivial (Below.refl _ _) (Nat.le_refl _) (by simp) ?_; (case hd => rfl); (case hg => rfl); (case hr => first | (go_simp; done) | (go_simp; rfl)); (case hp => exact (Reps.one (show Kd.M (Kd.int .i64) _ _ _ 0 [.int .i64 0] from rfl) (Reps.one (show Kd.M (Kd.int .i64) _ _ _ 1 [.int .i64 1] from rfl) (Reps.one (show Kd.M (Kd.int .i64) _ _ _ 0 [.int .i64 0] from rfl) (Reps.none _ _))))); intro v161 w5 ho6 hb hg_ hnew_; clear hg_ hnew_; (first | rw [← Ny160.out] at ho6 | (simp only [Int.reduceToNat] at ho6; rw [← Ny160.out] at ho6)); have n0_ := Aside0.mk (Kd.R_elder' (nR_ HO156.out) (Kd.R_base ho6) hb); have n1_ := Aside0.mk (Kd.R_elder' (nR_ HO159.out) (Kd.R_base ho6) hb); have n2_ := Aside0.mk (Kd.R_lower (Kd.R_new' (Kd.R_new' (Kd.R_newM (M := fun k_ => (w.heap.size ≤ k_)) ho6 (below_size (bel_)) (fun k_ h_ => h_)) (Kd.R_lt (nR_ HO156.out))) (Kd.R_lt (nR_ HO159.out))) (below_size (bel_))); have n3_ := Aside0.mk (below_step (bel_) hb); clear HO156; clear HO159; clear HB; have HO156 := n0_; have HO159 := n1_; have HO162 := n2_; have HB := n3_; clear n0_ n1_ n2_ n3_; clear hb ho6; obtain ⟨Ao7, co7, eo7⟩ := Kd.R_slice HO156.out; subst eo7; obtain ⟨Ao8, co8, eo8⟩ := Kd.R_slice HO159.out; subst eo8; obtain ⟨Ao9, co9, eo9⟩ := Kd.R_slice HO162.out; subst eo9) | ((with_reducible refine gate_dst (N := 4) rfl ?_); refine Kd.N_lit (Kd.slice 3 (Kd.int .i64)) _ 28 ?hg (N' := 4) ?hd (xs := ([y154, y157, y160] : List (List Int))) (inner := [.slice Ao7 y154.length co7, .slice Ao8 y157.length co8, .slice Ao9 y160.length co9]) (ok := (fun k_ => (w.heap.size ≤ k_))) (okp := (fun k_ => (w.heap.size ≤ k_))) ?hr ?hp (fun _ hk => hk) ((show ∀ k_, w5.heap.size ≤ k_ → (fun k_ => (w.heap.size ≤ k_)) k_ from fun k_ hk => (Nat.le_trans (below_size (bel_)) hk)) _ (Nat.le_refl _)) (Below.refl _ _) (Nat.le_refl _) (by simp) ?_; (case hd => rfl); (case hg => rfl); (case hr => first | (go_simp; done) | (go_simp; rfl)); (case hp => exact (Reps.one (show Kd.FK (Kd.slice 3 (Kd.int .i64)) _ _ y154 [.slice Ao7 y154.length co7] from (Kd.FK_slice_mk (Kd.R_reads' (Kd.R_mono (ok' := (fun k_ => (w.heap.size ≤ k_))) (HO156.out) (fun k_ hk => hk.1.1.1))).2.1 (Kd.R_F (Kd.R_mono (ok' := (fun k_ => (w.heap.size ≤ k_))) (HO156.out) (fun k_ hk => hk.1.1.1))))) (Reps.one (show Kd.FK (Kd.slice 3 (Kd.int .i64)) _ _ y157 [.slice Ao8 y157.length co8] from (Kd.FK_slice_mk (Kd.R_reads' (Kd.R_mono (ok' := (fun k_ => (w.heap.size ≤ k_))) (HO159.out) (fun k_ hk => hk.1.1.1))).2.1 (Kd.R_F (Kd.R_mono (ok' := (fun k_ => (w.heap.size ≤ k_))) (HO159.out) (fun k_ hk => hk.1.1.1))))) (Reps.one (show Kd.FK (Kd.slice 3 (Kd.int .i64)) _ _ y160 [.slice Ao9 y160.length co9] from (Kd.FK_slice_mk (Kd.R_reads' (Kd.R_mono (ok' := (fun k_ => (w.heap.size ≤ k_))) (HO162.out) (fun k_ hk => hk.1.1.1))).2.1 (Kd.R_F (Kd.R_mono (ok' := (fun k_ => (w.heap.size ≤ k_))) (HO162.out) (fun k_ hk => hk.1.1.1))))) (Reps.none _ _))))); intro v164 w10 ho11 hb hg_ hnew_; clear hg_ hnew_; (first | rw [← Ny163.out] at ho11 | (simp only [Int.reduceToNat] at ho11; rw [← Ny163.out] at ho11)); have n0_ := Aside0.mk (Kd.N_lower ho11 (below_size (bel_))); have n1_ := Aside0.mk (below_step (bel_) hb); clear HB; clear HO156; clear HO159; clear HO162; have HO165 := n0_; have HB := n1_; clear n0_ n1_; clear hb ho11))
 go_ret
 exact ⟨_, er_, by (with_reducible repeat (first | apply Kd.N_alloc | apply Kd.N_drewN | apply Kd.N_drew)); exact HO165.out, bel_⟩

end Go.Proofs.Ytdinepghommchaa.V

-- Written by a program of this session over the kit's printer: wip/gp.py.
namespace Go.Proofs.Ytdinepghommchaa.V
open Go.RowKit Go.Proofs.YtdinepghommchaaW.PrintWords Go.Proofs.YtdinepghommchaaW.PrintLast Go.Proofs.YtdinepghommchaaW.PrintMore
attribute [local go_sem] max2_int min2_int max_two min_two max_three min_three max_four min_four   -- for this text's walks alone
set_option linter.unusedVariables false
set_option linter.unusedSimpArgs false

/-! ### veils_Minus: function 45 -/
mutual
def veils_Minus.l0 : Nat → List (List Int) → Int → Int → List (List Int) → Int → Int → Option (Int × Int × Int)
 | 0, _, _, _, _, _, _ => none
 | k + 1, x5, x7, x8, x20, x21, x22 => if x22 < x21 then (if 0 ≤ x22 then (if x22 < (x20.length : Int) then (veils_Minus.l1 k x5 x7 x8 x22 x20 x21 x22 (rd_L1 x20 x22) ((rd_L1 x20 x22).length : Int) 0) else (none)) else (none)) else (some (x7, x8, 0))
def veils_Minus.l1 : Nat → List (List Int) → Int → Int → Int → List (List Int) → Int → Int → List Int → Int → Int → Option (Int × Int × Int)
 | 0, _, _, _, _, _, _, _, _, _, _ => none
 | k + 1, x5, x7, x8, x9, x20, x21, x22, x27, x28, x29 => if x29 < x28 then (if 0 ≤ x29 then (if x29 < (x27.length : Int) then (if (rd x27 x29) < 0 then ((veils_veil_sum.f k x5 (x5.length : Int) x29).bind fun t172 => ((veils_veil_sum.f k x5 (wrap64 (x9 + 1)) x29).bind fun t173 => (veils_Minus.l1 k x5 (wrap64 (x7 + 1)) (wrap64 (x8 + (wrap64 ((rd x27 x29) * (wrap64 (t172 - t173)))))) x9 x20 x21 x22 x27 x28 (wrap64 (x29 + 1))))) else ((veils_veil_sum.f k x5 (x5.length : Int) x29).bind fun t174 => ((veils_veil_sum.f k x5 (wrap64 (x9 + 1)) x29).bind fun t175 => (veils_Minus.l1 k x5 x7 (wrap64 (x8 + (wrap64 ((rd x27 x29) * (wrap64 (t174 - t175)))))) x9 x20 x21 x22 x27 x28 (wrap64 (x29 + 1)))))) else (none)) else (none)) else (veils_Minus.l0 k x5 x7 x8 x20 x21 (wrap64 (x22 + 1)))
end
def veils_Minus.f (k : Nat) (l0 : List (List Int)) : Option (Int × Int × Int) := (veils_read.f k l0).bind fun bt166 => (if bt166.2 = true then (veils_Minus.l0 k bt166.1 0 0 bt166.1 (bt166.1.length : Int) 0) else (some (0, 0, 2)))
theorem veils_Minus.mono_l : ∀ k, (∀ y0 y1 y2 y3 y4 y5, LeO (veils_Minus.l0 k y0 y1 y2 y3 y4 y5) (veils_Minus.l0 (k + 1) y0 y1 y2 y3 y4 y5)) ∧ (∀ y0 y1 y2 y3 y4 y5 y6 y7 y8 y9, LeO (veils_Minus.l1 k y0 y1 y2 y3 y4 y5 y6 y7 y8 y9) (veils_Minus.l1 (k + 1) y0 y1 y2 y3 y4 y5 y6 y7 y8 y9))
 | 0 => ⟨fun _ _ _ _ _ _ r h => by simp [veils_Minus.l0] at h, fun _ _ _ _ _ _ _ _ _ _ r h => by simp [veils_Minus.l1] at h⟩
 | k + 1 => by
  obtain ⟨ih0, ih1⟩ := veils_Minus.mono_l k
  refine ⟨?_, ?_⟩
  · intro y0 y1 y2 y3 y4 y5
    unfold veils_Minus.l0
    repeat' first
    | (with_reducible exact ih0 _ _ _ _ _ _)
    | (with_reducible exact ih1 _ _ _ _ _ _ _ _ _ _)
    | (with_reducible exact veils_read.mono _ _)
    | (with_reducible exact veils_veil_sum.mono _ _ _ _)
    | (with_reducible exact LeO.refl _)
    | (with_reducible exact LeO.none _)
    | (with_reducible refine LeO.ite ?_ ?_)
    | (with_reducible refine LeO.bind ?_ (fun _ => ?_))
    | exact ih0 _ _ _ _ _ _
    | exact ih1 _ _ _ _ _ _ _ _ _ _
    | exact veils_read.mono _ _
    | exact veils_veil_sum.mono _ _ _ _
    | exact LeO.none _
    | refine LeO.ite ?_ ?_
    | refine LeO.bind ?_ (fun _ => ?_)
  · intro y0 y1 y2 y3 y4 y5 y6 y7 y8 y9
    unfold veils_Minus.l1
    repeat' first
    | (with_reducible exact ih0 _ _ _ _ _ _)
    | (with_reducible exact ih1 _ _ _ _ _ _ _ _ _ _)
    | (with_reducible exact veils_read.mono _ _)
    | (with_reducible exact veils_veil_sum.mono _ _ _ _)
    | (with_reducible exact LeO.refl _)
    | (with_reducible exact LeO.none _)
    | (with_reducible refine LeO.ite ?_ ?_)
    | (with_reducible refine LeO.bind ?_ (fun _ => ?_))
    | exact ih0 _ _ _ _ _ _
    | exact ih1 _ _ _ _ _ _ _ _ _ _
    | exact veils_read.mono _ _
    | exact veils_veil_sum.mono _ _ _ _
    | exact LeO.none _
    | refine LeO.ite ?_ ?_
    | refine LeO.bind ?_ (fun _ => ?_)
theorem veils_Minus.mono : ∀ a0 k, LeO (veils_Minus.f k a0) (veils_Minus.f (k + 1) a0) := by
 intro a0 k
 obtain ⟨ih0, ih1⟩ := veils_Minus.mono_l k
 unfold veils_Minus.f
 repeat' first
  | (with_reducible exact ih0 _ _ _ _ _ _)
  | (with_reducible exact ih1 _ _ _ _ _ _ _ _ _ _)
  | (with_reducible exact veils_read.mono _ _)
  | (with_reducible exact veils_veil_sum.mono _ _ _ _)
  | (with_reducible exact LeO.refl _)
  | (with_reducible exact LeO.none _)
  | (with_reducible refine LeO.ite ?_ ?_)
  | (with_reducible refine LeO.bind ?_ (fun _ => ?_))
  | exact ih0 _ _ _ _ _ _
  | exact ih1 _ _ _ _ _ _ _ _ _ _
  | exact veils_read.mono _ _
  | exact veils_veil_sum.mono _ _ _ _
  | exact LeO.none _
  | refine LeO.ite ?_ ?_
  | refine LeO.bind ?_ (fun _ => ?_)
set_option maxHeartbeats 8000000 in
set_option maxRecDepth 100000 in
theorem veils_Minus.calls (k : Nat) (A0 : Option Addr) (c0 : Nat) (l0 : List (List Int)) (r1 : Int) (r2 : Int) (r3 : Int) (w : World) (hr0 : Kd.C (Kd.slice 3 (Kd.int .i64)) w A0 l0.length l0) (hc0 : l0.length ≤ c0) (h : veils_Minus.f k l0 = some (r1, r2, r3)) :
 Calls Try.prog 45 #[.slice A0 l0.length c0] w fun e w' => e = .returned (.tuple #[.int .i64 r1, .int .i64 r2, .int .i64 r3]) ∧ Below w.heap.size w w' := by
 have HR0 := Aside0.mk hr0
 have HC0 := Aside0.mk hc0
 clear hr0 hc0
 have HB := Aside0.mk (Below.refl w.heap.size w)
 have H : ((veils_read.f k l0).bind fun bt166 => (if bt166.2 = true then (veils_Minus.l0 k bt166.1 0 0 bt166.1 (bt166.1.length : Int) 0) else (some (0, 0, 2)))) = some (r1, r2, r3) := h
 clear h
 replace H := Option.bind_eq_some_iff.mp H
 obtain ⟨⟨t166, t169⟩, A20, H⟩ := H
 replace H : (if t169 = true then (veils_Minus.l0 k t166 0 0 t166 (t166.length : Int) 0) else (some (0, 0, 2))) = some (r1, r2, r3) := H
 have A2 := Aside0.mk A20
 clear A20
 by_cases c3 : t169 = true
 · subst c3
   have H1 : (veils_Minus.l0 k t166 0 0 t166 (t166.length : Int) 0) = some (r1, r2, r3) := by rw [if_pos rfl] at H; exact H
   clear H
   have H := H1
   clear H1
   have H' := Aside0.mk H
   clear H
   go_enter Try.func45, Try.ntmps45
   go_wp2_with (first | ((with_reducible refine gate_callee (f := 51) rfl ?_); refine goesL_ (some 15) rfl rfl Try.func51 (by kernel_rfl) rfl #[.slice A0 l0.length c0] rfl ar_ ?_; (with_reducible refine (veils_read.calls k (fun k_ => k_ < w.heap.size) _ _ l0 t166 true _ ?side1 A2.out).mono ?_); (case side1 => exact Kd.V_mk HC0.out (Kd.F_below (Kd.C_F (Kd.heap_slice 3 (Kd.heap_int .i64)) HR0.out) (bel_))); rintro e w4 ⟨v167, rfl, ho0, hb⟩; refine ⟨_, rfl, ?_⟩; have n0_ := Aside0.mk (Kd.V_lower (Kd.V_mono (ok' := fun k_ => True) ho0 (fun k_ hk_ => trivial)) (below_size (bel_))); have n1_ := Aside0.mk (below_step (bel_) hb); clear HB; have HO168 := n0_; have HB := n1_; clear n0_ n1_; (try clear hb); (try clear hb2); (try clear hk); (try clear hi); (try clear ho0); obtain ⟨Ao5, co5, eo5⟩ := Kd.V_slice HO168.out; subst eo5))
   go_loopg [7, 8, 22] k (fun kq v7 v8 v22 w' => ∃ (x7_1 : Int) (x8_1 : Int) (x22_1 : Int), v7 = .int .i64 x7_1 ∧ v8 = .int .i64 x8_1 ∧ v22 = .int .i64 x22_1 ∧ Aside0 (veils_Minus.l0 kq t166 x7_1 x8_1 t166 (t166.length : Int) x22_1 = some (r1, r2, r3)) ∧ Aside0 (kq ≤ k) ∧ Aside0 (Kd.V (Kd.slice 3 (Kd.int .i64)) 28 w' w.heap.size (fun _ => True) (.slice Ao5 t166.length co5) t166) ∧ Aside0 (Kd.V (Kd.slice 3 (Kd.int .i64)) 28 w' w.heap.size (fun _ => True) (.slice Ao5 t166.length co5) t166) ∧ Aside0 (Below w.heap.size w w'))
   case atStart => exact ⟨(0), (0), (0), rf_, rf_, rf_, H', ⟨Nat.le_refl _⟩, ⟨nV_ HO168.out⟩, ⟨nV_ HO168.out⟩, ⟨bel_⟩⟩
   case round =>
    clear H'
    try clear p2
    try clear c3
    try clear c4
    try clear c5
    obtain ⟨x7_1, x8_1, x22_1, rfl, rfl, rfl, HA, HK1, HO_5, HO_20, HB⟩ := hrel
    cases gk with
    | zero => exact absurd HA.out (by simp [veils_Minus.l0])
    | succ k1 =>
     have H := HA.out
     clear HA
     simp only [veils_Minus.l0] at H
     by_cases c6 : x22_1 < (t166.length : Int)
     · rw [if_pos c6] at H
       have c6b0 : decide (x22_1 < (t166.length : Int)) = true := decide_eq_true c6
       clear c6
       by_cases c7 : 0 ≤ x22_1
       · rw [if_pos c7] at H
         have c7b0 : decide (0 ≤ x22_1) = true := decide_eq_true c7
         clear c7
         by_cases c8 : x22_1 < (t166.length : Int)
         · rw [if_pos c8] at H
           have c8b0 : decide (x22_1 < (t166.length : Int)) = true := decide_eq_true c8
           clear c8
           have H' := Aside0.mk H
           clear H
           have p170 : 0 ≤ (x22_1 : Int) := od_
           have q170 : x22_1 < (t166.length : Int) := od_
           obtain ⟨ad170, A170_0, c170_0, e170, hx170_0, hl170_0, hi170_0⟩ := at_L1 (Kd.V_reads' HO_20.out).2.2 x22_1 p170 q170
           cases e170
           obtain ⟨ce170, hce170, hMe170, hcc170⟩ := Kd.V_get HO_20.out [] x22_1 p170 (by first | exact q170 | exact od_ | (have e_ := (Kd.V_reads' HO_20.out).1; omega))
           obtain ⟨ua170_0, uc170_0, rfl, ul170_0, ge170_0⟩ := Kd.FK_slice_open hMe170
           have hv170_0 := hcc170 0 _ rfl
           rw [Nat.add_zero, show ((Kd.slice 3 (Kd.int .i64))).sz = 1 from rfl, Nat.mul_one] at hv170_0
           replace hv170_0 := Option.some.inj (hv170_0.symm.trans hx170_0)
           injection hv170_0 with hva_ hvn_ hvc_
           rw [hva_] at ge170_0
           rw [hvc_] at ul170_0
           have HL170_0 := Aside0.mk (show Kd.V (Kd.int .i64) 3 _ w.heap.size _ _ (rd_L1 t166 x22_1) from Kd.V_mk ul170_0 ge170_0)
           clear hva_ hvn_ hvc_ ge170_0 ul170_0
           clear hcc170 hce170
           have HR170_0 := Aside0.mk hi170_0
           have HC170_0 := Aside0.mk hl170_0
           clear hi170_0 hl170_0
           replace p170 := eq_true p170
           replace q170 := eq_true q170
           go_wp2
           go_loopg [7, 8, 29] k1 (fun kq v7 v8 v29 w' => ∃ (x7_2 : Int) (x8_2 : Int) (x29_2 : Int), v7 = .int .i64 x7_2 ∧ v8 = .int .i64 x8_2 ∧ v29 = .int .i64 x29_2 ∧ Aside0 (veils_Minus.l1 kq t166 x7_2 x8_2 x22_1 t166 (t166.length : Int) x22_1 (rd_L1 t166 x22_1) ((rd_L1 t166 x22_1).length : Int) x29_2 = some (r1, r2, r3)) ∧ Aside0 (kq ≤ k1) ∧ Aside0 (Kd.V (Kd.slice 3 (Kd.int .i64)) 28 w' w.heap.size (fun _ => True) (.slice (some ad170) t166.length co5) t166) ∧ Aside0 (Kd.V (Kd.slice 3 (Kd.int .i64)) 28 w' w.heap.size (fun _ => True) (.slice (some ad170) t166.length co5) t166) ∧ Aside0 (Kd.C (Kd.int .i64) w' A170_0 (rd_L1 t166 x22_1).length (rd_L1 t166 x22_1)) ∧ Aside0 (Below w.heap.size w w'))
           case atStart => exact ⟨(x7_1), (x8_1), (0), rf_, rf_, rf_, H', ⟨Nat.le_refl _⟩, ⟨nV_ HO_5.out⟩, ⟨nV_ HO_20.out⟩, ⟨by repeat (first | (with_reducible exact HR170_0.out) | (with_reducible refine Kd.C_alloc ?_ _) | (with_reducible refine Kd.C_drewN ?_ _) | (with_reducible refine Kd.C_drew ?_) | exact HR170_0.out)⟩, ⟨bel_⟩⟩
           case round =>
            clear H'
            try clear c1
            try clear p1
            try clear q1
            try clear hx1
            try clear p2
            try clear c3
            try clear c4
            try clear c5
            try clear c6
            try clear c6b0
            try clear c7
            try clear c7b0
            try clear c8
            try clear c8b0
            try clear hx170_0
            try clear p170
            try clear p2
            try clear q170
            obtain ⟨x7_2, x8_2, x29_2, rfl, rfl, rfl, HA, HK2, HO_5, HO_20, HR170_0, HB⟩ := hrel
            cases gk with
            | zero => exact absurd HA.out (by simp [veils_Minus.l1])
            | succ k2 =>
             have H := HA.out
             clear HA
             simp only [veils_Minus.l1] at H
             by_cases c9 : x29_2 < ((rd_L1 t166 x22_1).length : Int)
             · rw [if_pos c9] at H
               have c9b0 : decide (x29_2 < ((rd_L1 t166 x22_1).length : Int)) = true := decide_eq_true c9
               clear c9
               by_cases c10 : 0 ≤ x29_2
               · rw [if_pos c10] at H
                 have c10b0 : decide (0 ≤ x29_2) = true := decide_eq_true c10
                 clear c10
                 by_cases c11 : x29_2 < ((rd_L1 t166 x22_1).length : Int)
                 · rw [if_pos c11] at H
                   have c11b0 : decide (x29_2 < ((rd_L1 t166 x22_1).length : Int)) = true := decide_eq_true c11
                   clear c11
                   by_cases c12 : (rd (rd_L1 t166 x22_1) x29_2) < 0
                   · rw [if_pos c12] at H
                     have c12b0 : decide ((rd (rd_L1 t166 x22_1) x29_2) < 0) = true := decide_eq_true c12
                     clear c12
                     replace H := Option.bind_eq_some_iff.mp H
                     obtain ⟨t172, A130, H⟩ := H
                     replace H : ((veils_veil_sum.f k2 t166 (wrap64 (x22_1 + 1)) x29_2).bind fun t173 => (veils_Minus.l1 k2 t166 (wrap64 (x7_2 + 1)) (wrap64 (x8_2 + (wrap64 ((rd (rd_L1 t166 x22_1) x29_2) * (wrap64 (t172 - t173)))))) x22_1 t166 (t166.length : Int) x22_1 (rd_L1 t166 x22_1) ((rd_L1 t166 x22_1).length : Int) (wrap64 (x29_2 + 1)))) = some (r1, r2, r3) := H
                     have A13 := Aside0.mk A130
                     clear A130
                     replace H := Option.bind_eq_some_iff.mp H
                     obtain ⟨t173, A140, H⟩ := H
                     replace H : (veils_Minus.l1 k2 t166 (wrap64 (x7_2 + 1)) (wrap64 (x8_2 + (wrap64 ((rd (rd_L1 t166 x22_1) x29_2) * (wrap64 (t172 - t173)))))) x22_1 t166 (t166.length : Int) x22_1 (rd_L1 t166 x22_1) ((rd_L1 t166 x22_1).length : Int) (wrap64 (x29_2 + 1))) = some (r1, r2, r3) := H
                     have A14 := Aside0.mk A140
                     clear A140
                     have H' := Aside0.mk H
                     clear H
                     have p171 : 0 ≤ (x29_2 : Int) := od_
                     have q171 : x29_2 < ((rd_L1 t166 x22_1).length : Int) := od_
                     obtain ⟨ad171, e171, hx171_0⟩ := Kd.at_int HR170_0.out x29_2 p171 q171
                     cases e171
                     try replace hx171_0 := (HB.out.cell (World.block_lt_of_cell? w _ hx171_0)).trans hx171_0
                     replace p171 := eq_true p171
                     replace q171 := eq_true q171
                     go_wp2_with (first | ((with_reducible refine gate_callee (f := 54) rfl ?_); refine goesL_ (some 44) rfl rfl Try.func54 (by kernel_rfl) rfl #[.slice (some ad170) t166.length co5, .int .i64 (t166.length : Int), .int .i64 x29_2] rfl ar_ ?_; (with_reducible refine (veils_veil_sum.calls k2 _ _ t166 (t166.length : Int) x29_2 t172 _ ?side1 ?side2 A13.out).mono ?_); (case side1 => repeat (first | exact (Kd.V_reads' HO_5.out).2.2 | (with_reducible refine Kd.C_alloc ?_ _) | (with_reducible refine Kd.C_drewN ?_ _) | (with_reducible refine Kd.C_drew ?_))); (case side2 => exact (Kd.V_reads' HO_5.out).2.1); rintro e w' ⟨rfl, ⟨nd, rfl⟩⟩; refine ⟨_, rfl, ?_⟩) | ((with_reducible refine gate_callee (f := 54) rfl ?_); refine goesL_ (some 49) rfl rfl Try.func54 (by kernel_rfl) rfl #[.slice (some ad170) t166.length co5, .int .i64 (wrap64 (x22_1 + 1)), .int .i64 x29_2] rfl ar_ ?_; (with_reducible refine (veils_veil_sum.calls k2 _ _ t166 (wrap64 (x22_1 + 1)) x29_2 t173 _ ?side1 ?side2 A14.out).mono ?_); (case side1 => repeat (first | exact (Kd.V_reads' HO_5.out).2.2 | (with_reducible refine Kd.C_alloc ?_ _) | (with_reducible refine Kd.C_drewN ?_ _) | (with_reducible refine Kd.C_drew ?_))); (case side2 => exact (Kd.V_reads' HO_5.out).2.1); rintro e w' ⟨rfl, ⟨nd, rfl⟩⟩; refine ⟨_, rfl, ?_⟩))
                     go_roundg k2
                     case measure => have := HK1.out; have := HK2.out; omega
                     case rel => exact ⟨(wrap64 (x7_2 + 1)), (wrap64 (x8_2 + (wrap64 ((rd (rd_L1 t166 x22_1) x29_2) * (wrap64 (t172 - t173)))))), (wrap64 (x29_2 + 1)), rf_, rf_, rf_, H', ⟨by have := HK1.out; have := HK2.out; omega⟩, ⟨nV_ HO_5.out⟩, ⟨nV_ HO_20.out⟩, ⟨by repeat (first | (with_reducible exact HR170_0.out) | (with_reducible refine Kd.C_alloc ?_ _) | (with_reducible refine Kd.C_drewN ?_ _) | (with_reducible refine Kd.C_drew ?_) | exact HR170_0.out)⟩, ⟨bel_⟩⟩
                   · rw [if_neg c12] at H
                     have c12b0 : decide ((rd (rd_L1 t166 x22_1) x29_2) < 0) = false := decide_eq_false c12
                     clear c12
                     replace H := Option.bind_eq_some_iff.mp H
                     obtain ⟨t174, A150, H⟩ := H
                     replace H : ((veils_veil_sum.f k2 t166 (wrap64 (x22_1 + 1)) x29_2).bind fun t175 => (veils_Minus.l1 k2 t166 x7_2 (wrap64 (x8_2 + (wrap64 ((rd (rd_L1 t166 x22_1) x29_2) * (wrap64 (t174 - t175)))))) x22_1 t166 (t166.length : Int) x22_1 (rd_L1 t166 x22_1) ((rd_L1 t166 x22_1).length : Int) (wrap64 (x29_2 + 1)))) = some (r1, r2, r3) := H
                     have A15 := Aside0.mk A150
                     clear A150
                     replace H := Option.bind_eq_some_iff.mp H
                     obtain ⟨t175, A160, H⟩ := H
                     replace H : (veils_Minus.l1 k2 t166 x7_2 (wrap64 (x8_2 + (wrap64 ((rd (rd_L1 t166 x22_1) x29_2) * (wrap64 (t174 - t175)))))) x22_1 t166 (t166.length : Int) x22_1 (rd_L1 t166 x22_1) ((rd_L1 t166 x22_1).length : Int) (wrap64 (x29_2 + 1))) = some (r1, r2, r3) := H
                     have A16 := Aside0.mk A160
                     clear A160
                     have H' := Aside0.mk H
                     clear H
                     have p171 : 0 ≤ (x29_2 : Int) := od_
                     have q171 : x29_2 < ((rd_L1 t166 x22_1).length : Int) := od_
                     obtain ⟨ad171, e171, hx171_0⟩ := Kd.at_int HR170_0.out x29_2 p171 q171
                     cases e171
                     try replace hx171_0 := (HB.out.cell (World.block_lt_of_cell? w _ hx171_0)).trans hx171_0
                     replace p171 := eq_true p171
                     replace q171 := eq_true q171
                     go_wp2_with (first | ((with_reducible refine gate_callee (f := 54) rfl ?_); refine goesL_ (some 44) rfl rfl Try.func54 (by kernel_rfl) rfl #[.slice (some ad170) t166.length co5, .int .i64 (t166.length : Int), .int .i64 x29_2] rfl ar_ ?_; (with_reducible refine (veils_veil_sum.calls k2 _ _ t166 (t166.length : Int) x29_2 t174 _ ?side1 ?side2 A15.out).mono ?_); (case side1 => repeat (first | exact (Kd.V_reads' HO_5.out).2.2 | (with_reducible refine Kd.C_alloc ?_ _) | (with_reducible refine Kd.C_drewN ?_ _) | (with_reducible refine Kd.C_drew ?_))); (case side2 => exact (Kd.V_reads' HO_5.out).2.1); rintro e w' ⟨rfl, ⟨nd, rfl⟩⟩; refine ⟨_, rfl, ?_⟩) | ((with_reducible refine gate_callee (f := 54) rfl ?_); refine goesL_ (some 49) rfl rfl Try.func54 (by kernel_rfl) rfl #[.slice (some ad170) t166.length co5, .int .i64 (wrap64 (x22_1 + 1)), .int .i64 x29_2] rfl ar_ ?_; (with_reducible refine (veils_veil_sum.calls k2 _ _ t166 (wrap64 (x22_1 + 1)) x29_2 t175 _ ?side1 ?side2 A16.out).mono ?_); (case side1 => repeat (first | exact (Kd.V_reads' HO_5.out).2.2 | (with_reducible refine Kd.C_alloc ?_ _) | (with_reducible refine Kd.C_drewN ?_ _) | (with_reducible refine Kd.C_drew ?_))); (case side2 => exact (Kd.V_reads' HO_5.out).2.1); rintro e w' ⟨rfl, ⟨nd, rfl⟩⟩; refine ⟨_, rfl, ?_⟩))
                     go_roundg k2
                     case measure => have := HK1.out; have := HK2.out; omega
                     case rel => exact ⟨(x7_2), (wrap64 (x8_2 + (wrap64 ((rd (rd_L1 t166 x22_1) x29_2) * (wrap64 (t174 - t175)))))), (wrap64 (x29_2 + 1)), rf_, rf_, rf_, H', ⟨by have := HK1.out; have := HK2.out; omega⟩, ⟨nV_ HO_5.out⟩, ⟨nV_ HO_20.out⟩, ⟨by repeat (first | (with_reducible exact HR170_0.out) | (with_reducible refine Kd.C_alloc ?_ _) | (with_reducible refine Kd.C_drewN ?_ _) | (with_reducible refine Kd.C_drew ?_) | exact HR170_0.out)⟩, ⟨bel_⟩⟩
                 · rw [if_neg c11] at H
                   exact absurd H (by simp)
               · rw [if_neg c10] at H
                 exact absurd H (by simp)
             · rw [if_neg c9] at H
               have c9b0 : decide (x29_2 < ((rd_L1 t166 x22_1).length : Int)) = false := decide_eq_false c9
               clear c9
               have H' := Aside0.mk H
               clear H
               go_wp2
               go_roundg k2
               case measure => have := HK1.out; have := HK2.out; omega
               case rel => exact ⟨(x7_2), (x8_2), (wrap64 (x22_1 + 1)), rf_, rf_, rf_, H', ⟨by have := HK1.out; have := HK2.out; omega⟩, ⟨nV_ HO_5.out⟩, ⟨nV_ HO_20.out⟩, ⟨bel_⟩⟩
         · rw [if_neg c8] at H
           exact absurd H (by simp)
       · rw [if_neg c7] at H
         exact absurd H (by simp)
     · rw [if_neg c6] at H
       have c6b0 : decide (x22_1 < (t166.length : Int)) = false := decide_eq_false c6
       clear c6
       simp only [Option.some.injEq, Prod.mk.injEq] at H
       obtain ⟨rfl, rfl, rfl⟩ := H
       go_wp2
       go_ret3
       exact ⟨er_, bel_⟩
 · replace c3 := Bool.eq_false_iff.mpr c3
   subst c3
   have H1 : (some (0, 0, 2)) = some (r1, r2, r3) := by rw [if_neg (show ¬ (false = true) by decide)] at H; exact H
   clear H
   have H := H1
   clear H1
   simp only [Option.some.injEq, Prod.mk.injEq] at H
   obtain ⟨rfl, rfl, rfl⟩ := H
   go_enter Try.func45, Try.ntmps45
   go_wp2_with (first | ((with_reducible refine gate_callee (f := 51) rfl ?_); refine goesL_ (some 15) rfl rfl Try.func51 (by kernel_rfl) rfl #[.slice A0 l0.length c0] rfl ar_ ?_; (with_reducible refine (veils_read.calls k (fun k_ => k_ < w.heap.size) _ _ l0 t166 false _ ?side1 A2.out).mono ?_); (case side1 => exact Kd.V_mk HC0.out (Kd.F_below (Kd.C_F (Kd.heap_slice 3 (Kd.heap_int .i64)) HR0.out) (bel_))); rintro e w17 ⟨v167, rfl, ho0, hb⟩; refine ⟨_, rfl, ?_⟩; have n0_ := Aside0.mk (Kd.V_lower (Kd.V_mono (ok' := fun k_ => True) ho0 (fun k_ hk_ => trivial)) (below_size (bel_))); have n1_ := Aside0.mk (below_step (bel_) hb); clear HB; have HO168 := n0_; have HB := n1_; clear n0_ n1_; (try clear hb); (try clear hb2); (try clear hk); (try clear hi); (try clear ho0)))
   go_ret3
   exact ⟨er_, bel_⟩

end Go.Proofs.Ytdinepghommchaa.V
