/- Functions of the program as plain Lean functions, and that a call of each comes to what its function tells. Written by a program of this seat. -/
import Derived.Test.YtlghklbjmmijpaaQ0
import Derived.Test.YtlghklbjmmijpaaQ6
import Derived.Test.YtlghklbjmmijpaaQ8
import Derived.Test.YtlghklbjmmijpaaQ9
import Derived.Test.YtlghklbjmmijpaaQ10
namespace Go.Proofs.Ytlghklbjmmijpaa.Q
open Go.RowKit Go.Proofs.YtlghklbjmmijpaaW.PrintWords Go.Proofs.YtlghklbjmmijpaaW.PrintLast Go.Proofs.YtlghklbjmmijpaaW.PrintMore
attribute [local go_sem] max2_int min2_int max_two min_two max_three min_three max_four min_four   -- for this text's walks alone
set_option linter.unusedVariables false
set_option linter.unusedSimpArgs false

/-! ### spec_Fall: function 94 -/
def spec_Fall.l0 : Nat → Int → Int → List Int → List Int → Int → Int → Int → List (S110) → List Int → List Int → Int → Int → Int → List (S110) → Option (List Int × List Int × Int × Int × Int × (List (S110)))
  | 0, _, _, _, _, _, _, _, _, _, _, _, _, _, _ => none
  | k + 1, x1, x6, x169000, x169001, x169002, x169003, x169004, x169005, x183000, x183001, x183002, x183003, x183004, x183005 => if x6 < (x169005.length : Int) then ((spec_InSet.f x1 x6).bind fun t187 => (if t187 = true then (if 0 ≤ x6 then ((spec_OnePut.f k x183000 x183001 x183002 x183003 x183004 x183005 ((rd_T110 x169005 x6).f0) ((rd_T110 x169005 x6).f1) ((rd_T110 x169005 x6).f2) ((rd_T110 x169005 x6).f3.f0) ((rd_T110 x169005 x6).f3.f1) ((rd_T110 x169005 x6).f3.f2)).bind fun bt189 => (spec_Fall.l0 k x1 (wrap64 (x6 + 1)) x169000 x169001 x169002 x169003 x169004 x169005 bt189.1 bt189.2.1 bt189.2.2.1 bt189.2.2.2.1 bt189.2.2.2.2.1 bt189.2.2.2.2.2)) else (none)) else (spec_Fall.l0 k x1 (wrap64 (x6 + 1)) x169000 x169001 x169002 x169003 x169004 x169005 x183000 x183001 x183002 x183003 x183004 x183005))) else (some (x183000, x183001, x183002, x183003, x183004, (([] : List (S110)))))
def spec_Fall.f (k : Nat) (l0_0 : List Int) (l0_1 : List Int) (a0_2 : Int) (a0_3 : Int) (a0_4 : Int) (l0_5 : List (S110)) (a1 : Int) : Option (List Int × List Int × Int × Int × Int × (List (S110))) := (spec_l9Copy.f k l0_0 l0_1 a0_2 a0_3 a0_4 l0_5).bind fun bt170 => ((spec_DiskOk.f k l0_0 l0_1 a0_2 a0_3 a0_4 l0_5).bind fun t183 => (if t183 = true then (spec_Fall.l0 k a1 0 l0_0 l0_1 a0_2 a0_3 a0_4 l0_5 bt170.1 bt170.2.1 bt170.2.2.1 bt170.2.2.2.1 bt170.2.2.2.2.1 bt170.2.2.2.2.2) else (some (bt170.1, bt170.2.1, bt170.2.2.1, bt170.2.2.2.1, bt170.2.2.2.2.1, bt170.2.2.2.2.2))))
theorem spec_Fall.mono_l : ∀ k, (∀ y0 y1 y2 y3 y4 y5 y6 y7 y8 y9 y10 y11 y12 y13, LeO (spec_Fall.l0 k y0 y1 y2 y3 y4 y5 y6 y7 y8 y9 y10 y11 y12 y13) (spec_Fall.l0 (k + 1) y0 y1 y2 y3 y4 y5 y6 y7 y8 y9 y10 y11 y12 y13))
  | 0 => fun _ _ _ _ _ _ _ _ _ _ _ _ _ _ r h => by simp [spec_Fall.l0] at h
  | k + 1 => by
    have m0_ := @spec_DiskOk.mono
    have m1_ := @spec_OnePut.mono
    have m2_ := @spec_l9Copy.mono
    have ih0 := spec_Fall.mono_l k
    · intro y0 y1 y2 y3 y4 y5 y6 y7 y8 y9 y10 y11 y12 y13
      unfold spec_Fall.l0
      exact LM
theorem spec_Fall.mono : ∀ a0 a1 a2 a3 a4 a5 a6 k, LeO (spec_Fall.f k a0 a1 a2 a3 a4 a5 a6) (spec_Fall.f (k + 1) a0 a1 a2 a3 a4 a5 a6) := by
  intro a0 a1 a2 a3 a4 a5 a6 k
  have m0_ := @spec_DiskOk.mono
  have m1_ := @spec_OnePut.mono
  have m2_ := @spec_l9Copy.mono
  have ih0 := spec_Fall.mono_l k
  unfold spec_Fall.f
  exact LM
def spec_Fall.T8 : Bool × List (List Nat × List Nat) := (true, [([], []), ([], []), ([1], [1]), ([], []), ([2, 3], [2, 3]), ([4], [4]), ([0, 5], [0, 5]), ([6, 6, 0, 1, 2, 3, 4, 5, 6], [6])])
def spec_Fall.B8 : List Nat := [0, 0, 2, 0, 14, 30, 63, 127]
theorem spec_Fall.tab8 : rtab .any (opsOf Try.f94 8) = spec_Fall.T8 := by kernel_rfl
theorem spec_Fall.bits8 : waitsOk spec_Fall.T8.2 spec_Fall.B8 = true := by kernel_rfl
set_option maxHeartbeats 40000000 in
set_option maxRecDepth 100000 in
theorem spec_Fall.calls (k : Nat) (az : Option Addr) (aE : Nat) (ap : List Int) (aA : Option Addr) (aD : Nat) (aq : List Int) (aw : Int) (ar : Int) (au : Int) (aF : Option Addr) (aB : Nat) (ab : List (S110)) (a1 : Int) (r1 : List Int) (r2 : List Int) (r3 : Int) (r4 : Int) (r5 : Int) (r6 : List (S110)) (w : World) (bN : Kd.C (Kd.int .u8) w az ap.length ap) (bK : ap.length ≤ aE) (bI : Kd.C (Kd.int .u8) w aA aq.length aq) (bO : aq.length ≤ aD) (bG : Kd.C k110 w aF ab.length ab) (bP : ab.length ≤ aB) (h : spec_Fall.f k ap aq aw ar au ab a1 = some (r1, r2, r3, r4, r5, r6)) :
  Calls Try.prog 94 #[.agg #[.slice az ap.length aE, .slice aA aq.length aD, .int .i64 aw, .int .i64 ar, .int .i64 au, .slice aF ab.length aB], .int .i64 a1] w fun e w' => ∃ v0_ v1_ v5_ : Value, e = .returned (.agg #[v0_, v1_, .int .i64 r3, .int .i64 r4, .int .i64 r5, v5_]) ∧ Kd.R (Kd.int .u8) 5 w' w.heap.size (fun k_ => some k_ ≠ (v1_ : Value).ownBlock) v0_ r1 ∧ Kd.R (Kd.int .u8) 5 w' w.heap.size (fun k_ => some k_ ≠ (v0_ : Value).ownBlock) v1_ r2 ∧ Kd.S k110 110 w' w.heap.size (fun k_ => some k_ ≠ (v0_ : Value).ownBlock ∧ some k_ ≠ (v1_ : Value).ownBlock) v5_ r6 ∧ Below w.heap.size w w' := by
 have hu33 := Try.underlying33
 have hu110 := Try.underlying110
 have bv := aM bN
 have bt := aM bK
 clear bN bK
 have bA := aM bI
 have bs := aM bO
 clear bI bO
 have bm := aM bG
 have bz := aM bP
 clear bG bP
 have HB := aM (Below.refl w.heap.size w)
 have H := h
 clear h
 unfold spec_Fall.f at H
 replace H := bE H
 obtain ⟨⟨av, ax, aG, aI, aL, aX⟩, A3, H⟩ := H
 dsimp only at H
 replace H := bE H
 obtain ⟨t183, A4, H⟩ := H
 go_enter Try.func94, Try.ntmps94
 go_wp2_with (first | ((with_reducible refine gate_dst (N := 2) rfl ?_); refine gBx 2 #[.slice az ap.length aE, .slice aA aq.length aD, .int .i64 aw, .int .i64 ar, .int .i64 au, .slice aF ab.length aB] 33 ?_; intro ao hg w6 hbox hb; have ac := aM (hbox); have GW168 := aM ((by rw [hg]; exact (below_size TB) : w.heap.size ≤ ao)); have GE168 := aM ((by rw [hg]; exact (below_size TB) : w.heap.size ≤ ao)); replace HB := aM (below_step TB hb); clear hb hbox hg) | ((with_reducible refine gate_dst (N := 4) rfl ?_); refine gBx 4 #[.slice none 0 0, .slice none 0 0, .int .i64 0, .int .i64 0, .int .i64 0, .slice none 0 0] 33 ?_; intro gb169 hg w7 hbox hb; have an := aM (hbox); have GW169 := aM ((by rw [hg]; exact (below_size TB) : w.heap.size ≤ gb169)); have GE169 := aM ((by rw [hg]; exact (below_size TB) : w.heap.size ≤ gb169)); have NB168_169 := aM ((by rw [hg]; exact Nat.ne_of_lt (blk_lt (g := ao) (o := .cells #[.slice az ap.length aE, .slice aA aq.length aD, .int .i64 aw, .int .i64 ar, .int .i64 au, .slice aF ab.length aB] 33 (0, 0)) TK) : ao ≠ gb169)); have NB169_168 := aM ((by rw [hg]; exact Nat.ne_of_gt (blk_lt (g := ao) (o := .cells #[.slice az ap.length aE, .slice aA aq.length aD, .int .i64 aw, .int .i64 ar, .int .i64 au, .slice aF ab.length aB] 33 (0, 0)) TK) : gb169 ≠ ao)); replace ac := aM (blk_below (g := ao) (o := .cells #[.slice az ap.length aE, .slice aA aq.length aD, .int .i64 aw, .int .i64 ar, .int .i64 au, .slice aF ab.length aB] 33 (0, 0)) TK hb); replace HB := aM (below_step TB hb); clear hb hbox hg; have hnb8 := NB168_169.out; have hnc8 := NB169_168.out; obtain ⟨cl, ck, cm, co, cq, cn⟩ := cz6 ac.out; obtain ⟨ci, cj, cg, cp, ch, cf⟩ := fz6 ac.out) | ((with_reducible refine gate_callee (f := 68) rfl ?_); refine gL (some 8) Try.func68 #[.agg #[.slice az ap.length aE, .slice aA aq.length aD, .int .i64 aw, .int .i64 ar, .int .i64 au, .slice aF ab.length aB]] ?_; (with_reducible refine (spec_l9Copy.calls k _ _ ap _ _ aq aw ar au _ _ ab av ax aG aI aL aX _ ?side1 ?side2 ?side3 ?side4 ?side5 ?side6 A3.out).mono ?_); (case side1 => have X_ := (Kd.C_below bv.out HB.out); exact TC); (case side2 => exact bt.out); (case side3 => have X_ := (Kd.C_below bA.out HB.out); exact TC); (case side4 => exact bs.out); (case side5 => have X_ := (Kd.C_below bm.out HB.out); exact TC); (case side6 => exact bz.out); rintro e w10 ⟨v171, v174, v180, rfl, ho0, ho1, ho2, hb⟩; refine ⟨_, rfl, ?_⟩; have HO172 := aM (Kd.R_lower ho0 (below_size TB)); have HO175 := aM (Kd.R_lower ho1 (below_size TB)); have HO181 := aM (Kd.S_lower ho2 (below_size TB)); replace ac := aM (blk_below (g := ao) (o := .cells #[.slice az ap.length aE, .slice aA aq.length aD, .int .i64 aw, .int .i64 ar, .int .i64 au, .slice aF ab.length aB] 33 (0, 0)) TK hb); replace an := aM (blk_below (g := gb169) (o := .cells #[.slice none 0 0, .slice none 0 0, .int .i64 0, .int .i64 0, .int .i64 0, .slice none 0 0] 33 (0, 0)) TK hb); replace HB := aM (below_step TB hb); clear ho0 ho1 ho2 hb) | ((with_reducible refine gate_dst (N := 5) rfl ?_); refine gBx 5 #[.slice none 0 0, .slice none 0 0, .int .i64 0, .int .i64 0, .int .i64 0, .slice none 0 0] 33 ?_; intro gb182 hg w11 hbox hb; have aa := aM (hbox); have GW182 := aM ((by rw [hg]; exact (below_size TB) : w.heap.size ≤ gb182)); have GE182 := aM ((by rw [hg]; exact (below_size TB) : w.heap.size ≤ gb182)); have NB168_182 := aM ((by rw [hg]; exact Nat.ne_of_lt (blk_lt (g := ao) (o := .cells #[.slice az ap.length aE, .slice aA aq.length aD, .int .i64 aw, .int .i64 ar, .int .i64 au, .slice aF ab.length aB] 33 (0, 0)) TK) : ao ≠ gb182)); have NB182_168 := aM ((by rw [hg]; exact Nat.ne_of_gt (blk_lt (g := ao) (o := .cells #[.slice az ap.length aE, .slice aA aq.length aD, .int .i64 aw, .int .i64 ar, .int .i64 au, .slice aF ab.length aB] 33 (0, 0)) TK) : gb182 ≠ ao)); have NB169_182 := aM ((by rw [hg]; exact Nat.ne_of_lt (blk_lt (g := gb169) (o := .cells #[.slice none 0 0, .slice none 0 0, .int .i64 0, .int .i64 0, .int .i64 0, .slice none 0 0] 33 (0, 0)) TK) : gb169 ≠ gb182)); have NB182_169 := aM ((by rw [hg]; exact Nat.ne_of_gt (blk_lt (g := gb169) (o := .cells #[.slice none 0 0, .slice none 0 0, .int .i64 0, .int .i64 0, .int .i64 0, .slice none 0 0] 33 (0, 0)) TK) : gb182 ≠ gb169)); replace HO172 := aM (Kd.R_below (by have X_ := HO172.out; exact TR) hb); replace HO175 := aM (Kd.R_below (by have X_ := HO175.out; exact TR) hb); replace HO181 := aM (Kd.S_below (by have X_ := HO181.out; exact TS) hb); replace ac := aM (blk_below (g := ao) (o := .cells #[.slice az ap.length aE, .slice aA aq.length aD, .int .i64 aw, .int .i64 ar, .int .i64 au, .slice aF ab.length aB] 33 (0, 0)) TK hb); replace an := aM (blk_below (g := gb169) (o := .cells #[.slice none 0 0, .slice none 0 0, .int .i64 0, .int .i64 0, .int .i64 0, .slice none 0 0] 33 (0, 0)) TK hb); replace HB := aM (below_step TB hb); clear hb hbox hg; obtain ⟨Ao12, co12, eo12⟩ := Kd.R_slice HO172.out; subst eo12; have hnb13 := NB182_168.out; have hnc13 := NB168_182.out; have hnb14 := NB182_169.out; have hnc14 := NB169_182.out; obtain ⟨b7, b5, bQ, bZ, b8, cc⟩ := cz6 aa.out; obtain ⟨cd, cb, bX, b6, bT, ce⟩ := fz6 aa.out; obtain ⟨Ao16, co16, eo16⟩ := Kd.R_slice HO175.out; subst eo16; obtain ⟨Ao17, co17, eo17⟩ := Kd.S_slice HO181.out; subst eo17; obtain ⟨b2, bS, b1, b9, bW, ca⟩ := cz6 ac.out; obtain ⟨bU, b0, bR, b4, b3, bY⟩ := fz6 ac.out) | ((with_reducible refine gate_callee (f := 69) rfl ?_); (with_reducible refine gate_dst (N := 10) rfl ?_); generalize hG_ : wpList _ _ _ _ _ _ = G_))
 subst hG_
 by_cases c19 : t183 = true
 ·subst c19
  replace H := ifT H
  have H' := aM H
  clear H
  go_wp2_with (first | ((with_reducible refine gate_callee (f := 69) rfl ?_); refine gL (some 10) Try.func69 #[.agg #[.slice az ap.length aE, .slice aA aq.length aD, .int .i64 aw, .int .i64 ar, .int .i64 au, .slice aF ab.length aB]] ?_; (with_reducible refine (spec_DiskOk.calls k _ _ ap _ _ aq aw ar au _ _ ab true _ ?side1 ?side2 ?side3 ?side4 ?side5 ?side6 A4.out).mono ?_); (case side1 => exact Kd.C_below bv.out TB); (case side2 => exact bt.out); (case side3 => exact Kd.C_below bA.out TB); (case side4 => exact bs.out); (case side5 => exact Kd.C_below bm.out TB); (case side6 => exact bz.out); rintro e w20 ⟨rfl, hb⟩; refine ⟨_, rfl, ?_⟩; replace HO172 := aM (Kd.R_below (by (with_reducible repeat (first | apply Kd.R_alloc | apply Kd.R_drewN | apply Kd.R_drew)); exact (R_off (Kd.R_types HO172.out aa.out (by decide)) TO)) hb); replace HO175 := aM (Kd.R_below (by (with_reducible repeat (first | apply Kd.R_alloc | apply Kd.R_drewN | apply Kd.R_drew)); exact (R_off (Kd.R_types HO175.out aa.out (by decide)) TO)) hb); replace HO181 := aM (Kd.S_below (by (with_reducible repeat (first | apply Kd.S_alloc | apply Kd.S_drewN | apply Kd.S_drew)); exact (S_off (Kd.S_types HO181.out aa.out (by decide)) TO)) hb); replace ac := aM (blk_below (g := ao) (o := .cells #[.slice az ap.length aE, .slice aA aq.length aD, .int .i64 aw, .int .i64 ar, .int .i64 au, .slice aF ab.length aB] 33 (0, 0)) (by (with_reducible repeat (first | refine blk_drewN ?_ _ | refine blk_drew ?_ | refine blk_alloc ?_ _)); refine blk_far ?_ NB168_182.out _; (with_reducible repeat (first | refine blk_drewN ?_ _ | refine blk_drew ?_ | refine blk_alloc ?_ _)); refine blk_far ?_ NB168_182.out _; (with_reducible repeat (first | refine blk_drewN ?_ _ | refine blk_drew ?_ | refine blk_alloc ?_ _)); refine blk_far ?_ NB168_182.out _; (with_reducible repeat (first | refine blk_drewN ?_ _ | refine blk_drew ?_ | refine blk_alloc ?_ _)); refine blk_far ?_ NB168_182.out _; (with_reducible repeat (first | refine blk_drewN ?_ _ | refine blk_drew ?_ | refine blk_alloc ?_ _)); refine blk_far ?_ NB168_182.out _; (with_reducible repeat (first | refine blk_drewN ?_ _ | refine blk_drew ?_ | refine blk_alloc ?_ _)); refine blk_far ?_ NB168_182.out _; (with_reducible repeat (first | refine blk_drewN ?_ _ | refine blk_drew ?_ | refine blk_alloc ?_ _)); exact ac.out) hb); replace an := aM (blk_below (g := gb169) (o := .cells #[.slice none 0 0, .slice none 0 0, .int .i64 0, .int .i64 0, .int .i64 0, .slice none 0 0] 33 (0, 0)) (by (with_reducible repeat (first | refine blk_drewN ?_ _ | refine blk_drew ?_ | refine blk_alloc ?_ _)); refine blk_far ?_ NB169_182.out _; (with_reducible repeat (first | refine blk_drewN ?_ _ | refine blk_drew ?_ | refine blk_alloc ?_ _)); refine blk_far ?_ NB169_182.out _; (with_reducible repeat (first | refine blk_drewN ?_ _ | refine blk_drew ?_ | refine blk_alloc ?_ _)); refine blk_far ?_ NB169_182.out _; (with_reducible repeat (first | refine blk_drewN ?_ _ | refine blk_drew ?_ | refine blk_alloc ?_ _)); refine blk_far ?_ NB169_182.out _; (with_reducible repeat (first | refine blk_drewN ?_ _ | refine blk_drew ?_ | refine blk_alloc ?_ _)); refine blk_far ?_ NB169_182.out _; (with_reducible repeat (first | refine blk_drewN ?_ _ | refine blk_drew ?_ | refine blk_alloc ?_ _)); refine blk_far ?_ NB169_182.out _; (with_reducible repeat (first | refine blk_drewN ?_ _ | refine blk_drew ?_ | refine blk_alloc ?_ _)); exact an.out) hb); replace aa := aM (blk_below (g := gb182) (o := .cells #[.slice Ao12 av.length co12, .slice Ao16 ax.length co16, .int .i64 aG, .int .i64 aI, .int .i64 aL, .slice Ao17 aX.length co17] 33 (0, 0)) (by (with_reducible repeat (first | refine blk_drewN ?_ _ | refine blk_drew ?_ | refine blk_alloc ?_ _)); refine blk_put (cs := #[.slice Ao12 av.length co12, .slice Ao16 ax.length co16, .int .i64 aG, .int .i64 aI, .int .i64 aL, .slice none 0 0]) ?_ 5 _ rfl; (with_reducible repeat (first | refine blk_drewN ?_ _ | refine blk_drew ?_ | refine blk_alloc ?_ _)); refine blk_put (cs := #[.slice Ao12 av.length co12, .slice Ao16 ax.length co16, .int .i64 aG, .int .i64 aI, .int .i64 0, .slice none 0 0]) ?_ 4 _ rfl; (with_reducible repeat (first | refine blk_drewN ?_ _ | refine blk_drew ?_ | refine blk_alloc ?_ _)); refine blk_put (cs := #[.slice Ao12 av.length co12, .slice Ao16 ax.length co16, .int .i64 aG, .int .i64 0, .int .i64 0, .slice none 0 0]) ?_ 3 _ rfl; (with_reducible repeat (first | refine blk_drewN ?_ _ | refine blk_drew ?_ | refine blk_alloc ?_ _)); refine blk_put (cs := #[.slice Ao12 av.length co12, .slice Ao16 ax.length co16, .int .i64 0, .int .i64 0, .int .i64 0, .slice none 0 0]) ?_ 2 _ rfl; (with_reducible repeat (first | refine blk_drewN ?_ _ | refine blk_drew ?_ | refine blk_alloc ?_ _)); refine blk_put (cs := #[.slice Ao12 av.length co12, .slice none 0 0, .int .i64 0, .int .i64 0, .int .i64 0, .slice none 0 0]) ?_ 1 _ rfl; (with_reducible repeat (first | refine blk_drewN ?_ _ | refine blk_drew ?_ | refine blk_alloc ?_ _)); refine blk_put (cs := #[.slice none 0 0, .slice none 0 0, .int .i64 0, .int .i64 0, .int .i64 0, .slice none 0 0]) ?_ 0 _ rfl; (with_reducible repeat (first | refine blk_drewN ?_ _ | refine blk_drew ?_ | refine blk_alloc ?_ _)); exact aa.out) hb); replace HB := aM (below_step TB hb); clear hb))
  go_loopg [6] k (fun kq v6 w' => ∃ (ak : Int) (ai : List Int) (aj : List Int) (ae : Int) (ah : Int) (ad : Int) (am : List (S110)) (ay : Value) (aC : Value) (aJ : Value), v6 = .int .i64 ak ∧ Aside0 (spec_Fall.l0 kq a1 ak ap aq aw ar au ab ai aj ae ah ad am = some (r1, r2, r3, r4, r5, r6)) ∧ Aside0 (kq ≤ k) ∧ Aside0 (Kd.R (Kd.int .u8) 5 w' w.heap.size (fun k_ => some k_ ≠ (aC : Value).ownBlock) ay ai) ∧ Aside0 (Kd.R (Kd.int .u8) 5 w' w.heap.size (fun k_ => some k_ ≠ (ay : Value).ownBlock) aC aj) ∧ Aside0 (Kd.S k110 110 w' w.heap.size (fun k_ => some k_ ≠ (ay : Value).ownBlock ∧ some k_ ≠ (aC : Value).ownBlock) aJ am) ∧ Aside0 (w'.heap[ao]? = some (.cells #[(.slice az ap.length aE), (.slice aA aq.length aD), .int .i64 aw, .int .i64 ar, .int .i64 au, (.slice aF ab.length aB)] 33 (0, 0))) ∧ Aside0 (w'.heap[gb169]? = some (.cells #[(.slice none 0 0), (.slice none 0 0), .int .i64 0, .int .i64 0, .int .i64 0, (.slice none 0 0)] 33 (0, 0))) ∧ Aside0 (w'.heap[gb182]? = some (.cells #[ay, aC, .int .i64 ae, .int .i64 ah, .int .i64 ad, aJ] 33 (0, 0))) ∧ Aside0 (Below w.heap.size w w'))
  case atStart => exact ⟨(0), (av), (ax), (aG), (aI), (aL), (aX), (.slice Ao12 av.length co12), (.slice Ao16 ax.length co16), (.slice Ao17 aX.length co17), (by first | rfl | (simp; done) | (simp [*]; done)), H', ⟨Nat.le_refl _⟩, ⟨by have X_ := HO172.out; exact TR⟩, ⟨by have X_ := HO175.out; exact TR⟩, ⟨by have X_ := HO181.out; exact TS⟩, ⟨TK⟩, ⟨TK⟩, ⟨TK⟩, ⟨TB⟩⟩
  case round =>
   clear H'
   try clear c1
   try clear p2
   try clear c6
   try clear c8
   try clear c9
   try clear c13
   try clear c14
   try clear c19
   try clear b7
   try clear b5
   try clear bQ
   try clear bZ
   try clear b8
   try clear cc
   try clear b2
   try clear bS
   try clear b1
   try clear b9
   try clear bW
   try clear ca
   try clear cl
   try clear ck
   try clear cm
   try clear co
   try clear cq
   try clear cn
   try clear cd
   try clear cb
   try clear bX
   try clear b6
   try clear bT
   try clear ce
   try clear bU
   try clear b0
   try clear bR
   try clear b4
   try clear b3
   try clear bY
   try clear ci
   try clear cj
   try clear cg
   try clear cp
   try clear ch
   try clear cf
   obtain ⟨ak, ai, aj, ae, ah, ad, am, ay, aC, aJ, rfl, HA, HK1, ag, af, al, ac, an, aa, HB⟩ := hrel
   cases gk with
   | zero => exact absurd HA.out (by simp [spec_Fall.l0])
   | succ k1 =>
    have H := HA.out
    clear HA
    simp only [spec_Fall.l0] at H
    by_cases c21 : ak < (ab.length : Int)
    ·rw [if_pos c21] at H
     have c21b0 : decide (ak < (ab.length : Int)) = true := decide_eq_true c21
     clear c21
     replace H := bE H
     obtain ⟨t187, A22, H⟩ := H
     by_cases c23 : t187 = true
     ·subst c23
      replace H := ifT H
      replace H := ifN H
      obtain ⟨c24, H⟩ := H
      have c24b0 : decide (0 ≤ ak) = true := decide_eq_true c24
      clear c24
      replace H := bE H
      obtain ⟨⟨aK, aP, a8, bg, bh, bi⟩, A25, H⟩ := H
      dsimp only at H
      have H' := aM H
      clear H
      have hnb26 := NB168_169.out
      have hnc26 := NB169_168.out
      have hnb27 := NB168_182.out
      have hnc27 := NB182_168.out
      obtain ⟨hcz28_0, hcz28_1, hcz28_2, hcz28_3, hcz28_4, hcz28_5⟩ := cz6 ac.out
      obtain ⟨hfz28_0, hfz28_1, hfz28_2, hfz28_3, hfz28_4, hfz28_5⟩ := fz6 ac.out
      try go_wp2_with (first | ((with_reducible refine gate_callee (f := 138) rfl ?_); refine gL (some 22) Try.func138 #[.int .i64 a1, .int .i64 ak] ?_; (with_reducible refine (spec_InSet.calls a1 ak true _ A22.out).mono ?_); rintro e w' ⟨rfl, ⟨nd, rfl⟩⟩; refine ⟨_, rfl, ?_⟩; (try (rw [drewN_self wr]; generalize hq_ : World.drewN wr _ = wr; have n0_ : Aside0 (Kd.R (Kd.int .u8) 5 wr w.heap.size (fun k_ => some k_ ≠ (aC : Value).ownBlock) ay ai) := ⟨by rw [← hq_]; exact (by have X_ := ag.out; exact TR)⟩; have n1_ : Aside0 (Kd.R (Kd.int .u8) 5 wr w.heap.size (fun k_ => some k_ ≠ (ay : Value).ownBlock) aC aj) := ⟨by rw [← hq_]; exact (by have X_ := af.out; exact TR)⟩; have n2_ : Aside0 (Kd.S k110 110 wr w.heap.size (fun k_ => (some k_ ≠ (ay : Value).ownBlock ∧ some k_ ≠ (aC : Value).ownBlock)) aJ am) := ⟨by rw [← hq_]; exact (by have X_ := al.out; exact TS)⟩; have n3_ : Aside0 (wr.heap[ao]? = some (.cells #[.slice az ap.length aE, .slice aA aq.length aD, .int .i64 aw, .int .i64 ar, .int .i64 au, .slice aF ab.length aB] 33 (0, 0))) := ⟨by rw [← hq_]; exact TK⟩; have n4_ : Aside0 (wr.heap[gb169]? = some (.cells #[.slice none 0 0, .slice none 0 0, .int .i64 0, .int .i64 0, .int .i64 0, .slice none 0 0] 33 (0, 0))) := ⟨by rw [← hq_]; exact TK⟩; have n5_ : Aside0 (wr.heap[gb182]? = some (.cells #[ay, aC, .int .i64 ae, .int .i64 ah, .int .i64 ad, aJ] 33 (0, 0))) := ⟨by rw [← hq_]; exact TK⟩; have n6_ : Aside0 (Below w.heap.size w wr) := ⟨by rw [← hq_]; exact TB⟩; clear ag af al ac an aa HB hq_; have ag := n0_; have af := n1_; have al := n2_; have ac := n3_; have an := n4_; have aa := n5_; have HB := n6_; clear n0_ n1_ n2_ n3_ n4_ n5_ n6_))))
      replace ag := aM (Kd.R_drew ag.out)
      replace af := aM (Kd.R_drew af.out)
      replace al := aM (Kd.S_drew al.out)
      replace ac := aM (blk_drew ac.out)
      replace an := aM (blk_drew an.out)
      replace aa := aM (blk_drew aa.out)
      replace HB := aM (below_drew1 HB.out)
      have bD : 0 ≤ (ak : Int) := DT
      have bF : ak < (ab.length : Int) := DT
      obtain ⟨aH, bB, bC, e188, aV, aU, aQ, aR, aT, aS, bq, bp⟩ := at_T110 bm.out ak bD bF
      have ba := aS
      have bc := aT
      have bb := aR
      have a9 := aQ
      have bd := aU
      have be := aV
      cases e188
      replace aV := (HB.out.cell (World.block_lt_of_cell? w _ aV)).trans aV
      replace aU := (HB.out.cell (World.block_lt_of_cell? w _ aU)).trans aU
      replace aQ := (HB.out.cell (World.block_lt_of_cell? w _ aQ)).trans aQ
      replace aR := (HB.out.cell (World.block_lt_of_cell? w _ aR)).trans aR
      replace aT := (HB.out.cell (World.block_lt_of_cell? w _ aT)).trans aT
      replace aS := (HB.out.cell (World.block_lt_of_cell? w _ aS)).trans aS
      have br := aM bp
      have bV := aM bq
      clear bp bq
      replace bD := eq_true bD
      replace bF := eq_true bF
      obtain ⟨bo, bn, eo30⟩ := Kd.R_slice ag.out
      (first | subst eo30 | (injection eo30 with f1_ f2_ f3_; have f4_ := f1_.symm; have f5_ := f3_.symm; clear f1_ f2_ f3_; subst f4_; subst f5_))
      obtain ⟨bk, bj, eo31⟩ := Kd.R_slice af.out
      (first | subst eo31 | (injection eo31 with f1_ f2_ f3_; have f4_ := f1_.symm; have f5_ := f3_.symm; clear f1_ f2_ f3_; subst f4_; subst f5_))
      obtain ⟨aN, aO, eo32⟩ := Kd.S_slice al.out
      (first | subst eo32 | (injection eo32 with f1_ f2_ f3_; have f4_ := f1_.symm; have f5_ := f3_.symm; clear f1_ f2_ f3_; subst f4_; subst f5_))
      refine start_ (n := 8) (S := fun w' => w'.cell? ⟨gb182, 0, none⟩ = some (.slice bo ai.length bn) ∧ w'.cell? ⟨gb182, 1, none⟩ = some (.slice bk aj.length bj) ∧ w'.cell? ⟨gb182, 2, none⟩ = some (.int .i64 ae) ∧ w'.cell? ⟨gb182, 3, none⟩ = some (.int .i64 ah) ∧ w'.cell? ⟨gb182, 4, none⟩ = some (.int .i64 ad) ∧ w'.cell? ⟨gb182, 5, none⟩ = some (.slice aN am.length aO) ∧ w'.cell? ⟨ao, 0, none⟩ = some (.slice az ap.length aE) ∧ w'.cell? ⟨ao, 1, none⟩ = some (.slice aA aq.length aD) ∧ w'.cell? ⟨ao, 2, none⟩ = some (.int .i64 aw) ∧ w'.cell? ⟨ao, 3, none⟩ = some (.int .i64 ar) ∧ w'.cell? ⟨ao, 4, none⟩ = some (.int .i64 au) ∧ w'.cell? ⟨ao, 5, none⟩ = some (.slice (some aH) ab.length aB) ∧ w'.cell? (aH.add ((ak).toNat * 6)) = some (.int .i64 ((rd_T110 ab ak).f0)) ∧ w'.cell? ⟨(aH.add ((ak).toNat * 6)).block, (aH.add ((ak).toNat * 6)).off + 1, none⟩ = some (.int .i64 ((rd_T110 ab ak).f1)) ∧ w'.cell? ⟨(aH.add ((ak).toNat * 6)).block, (aH.add ((ak).toNat * 6)).off + 2, none⟩ = some (.slice bB ((rd_T110 ab ak).f2).length bC) ∧ w'.cell? ⟨(aH.add ((ak).toNat * 6)).block, (aH.add ((ak).toNat * 6)).off + 3, none⟩ = some (.int .i64 ((rd_T110 ab ak).f3.f0)) ∧ w'.cell? ⟨(aH.add ((ak).toNat * 6)).block, (aH.add ((ak).toNat * 6)).off + 4, none⟩ = some (.int .i64 ((rd_T110 ab ak).f3.f1)) ∧ w'.cell? ⟨(aH.add ((ak).toNat * 6)).block, (aH.add ((ak).toNat * 6)).off + 5, none⟩ = some (.int .i64 ((rd_T110 ab ak).f3.f2))) (ds := [7]) (Array.replicate 8 false) (by kernel_rfl) rfl rfl ⟨(blk_cell aa.out 0).trans rfl, (blk_cell aa.out 1).trans rfl, (blk_cell aa.out 2).trans rfl, (blk_cell aa.out 3).trans rfl, (blk_cell aa.out 4).trans rfl, (blk_cell aa.out 5).trans rfl, (blk_cell ac.out 0).trans rfl, (blk_cell ac.out 1).trans rfl, (blk_cell ac.out 2).trans rfl, (blk_cell ac.out 3).trans rfl, (blk_cell ac.out 4).trans rfl, (blk_cell ac.out 5).trans rfl, ((HB.out.cell (World.block_lt_of_cell? w _ be)).trans be), ((HB.out.cell (World.block_lt_of_cell? w _ bd)).trans bd), ((HB.out.cell (World.block_lt_of_cell? w _ a9)).trans a9), ((HB.out.cell (World.block_lt_of_cell? w _ bb)).trans bb), ((HB.out.cell (World.block_lt_of_cell? w _ bc)).trans bc), ((HB.out.cell (World.block_lt_of_cell? w _ ba)).trans ba)⟩ (fun hHeld => ?_); refine with_tabW spec_Fall.tab8 spec_Fall.bits8 (fun HT_ HW_ => ?_)
      generalize wr.drew = w29 at ag af al ac an aa HB br aV aU aQ aR aT aS hHeld ⊢
      refine pP 1 (some 24) ?_
      refine pP 3 (some 26) ?_
      refine pT 0 (some 23) ?_
      refine pT 2 (some 25) ?_
      refine pP 4 (some 27) ?_
      refine pT 5 (some 28) ?_
      refine pO 6 (some 29) (fun K hK => ?_)
      refine gG Try.func139 #[.agg #[.slice bo ai.length bn, .slice bk aj.length bj, .int .i64 ae, .int .i64 ah, .int .i64 ad, .slice aN am.length aO], .agg #[.int .i64 ((rd_T110 ab ak).f0), .int .i64 ((rd_T110 ab ak).f1), .slice bB ((rd_T110 ab ak).f2).length bC, .int .i64 ((rd_T110 ab ak).f3.f0), .int .i64 ((rd_T110 ab ak).f3.f1), .int .i64 ((rd_T110 ab ak).f3.f2)]] ?_
      with_reducible refine (spec_OnePut.calls k1 _ _ ai _ _ aj ae ah ad _ _ am ((rd_T110 ab ak).f0) ((rd_T110 ab ak).f1) _ _ ((rd_T110 ab ak).f2) ((rd_T110 ab ak).f3.f0) ((rd_T110 ab ak).f3.f1) ((rd_T110 ab ak).f3.f2) aK aP a8 bg bh bi _ ?side1 ?side2 ?side3 ?side4 ?side5 ?side6 ?side7 ?side8 A25.out).mono ?_
      (case side1 => have X_ := (Kd.R_reads' ag.out).2.2; exact TC)
      (case side2 => exact (Kd.R_reads' ag.out).2.1)
      (case side3 => have X_ := (Kd.R_reads' af.out).2.2; exact TC)
      (case side4 => exact (Kd.R_reads' af.out).2.1)
      (case side5 => have X_ := (Kd.S_reads' al.out).2.2; exact TC)
      (case side6 => exact (Kd.S_reads' al.out).2.1)
      (case side7 => have X_ := (Kd.C_below br.out HB.out); exact TC)
      (case side8 => exact bV.out)
      rintro e w33 ⟨v190, v193, v199, rfl, ho0, ho1, ho2, hb⟩
      refine ⟨_, rfl, ?_⟩
      have n0_ := aM (Kd.R_mono (Kd.R_told (Kd.R_told (Kd.R_old (by have X_ := ag.out; exact TR) hb) (Kd.R_base ho0)) (Kd.R_base ho1)) (fun _ h_ => h_.1))
      have n1_ := aM (Kd.R_mono (Kd.R_told (Kd.R_told (Kd.R_old (by have X_ := af.out; exact TR) hb) (Kd.R_base ho0)) (Kd.R_base ho1)) (fun _ h_ => h_.1))
      have n2_ := aM (Kd.S_mono (Kd.S_told (Kd.S_told (Kd.S_told (Kd.S_old (by have X_ := al.out; exact TS) hb) (Kd.R_base ho0)) (Kd.R_base ho1)) (Kd.S_base ho2)) (fun _ h_ => h_.1))
      have n3_ := aM (Kd.R_lower (Kd.R_new' (Kd.R_new' ho0 (Kd.R_lt (by have X_ := ag.out; exact TR))) (Kd.R_lt (by have X_ := af.out; exact TR))) (below_size TB))
      have n4_ := aM (Kd.R_lower (Kd.R_new' (Kd.R_new' ho1 (Kd.R_lt (by have X_ := ag.out; exact TR))) (Kd.R_lt (by have X_ := af.out; exact TR))) (below_size TB))
      have n5_ := aM (Kd.S_lower (Kd.S_new' (Kd.S_new' (Kd.S_new' ho2 (Kd.R_lt (by have X_ := ag.out; exact TR))) (Kd.R_lt (by have X_ := af.out; exact TR))) (Kd.S_lt (by have X_ := al.out; exact TS))) (below_size TB))
      have n6_ := aM (blk_below (g := ao) (o := .cells #[.slice az ap.length aE, .slice aA aq.length aD, .int .i64 aw, .int .i64 ar, .int .i64 au, .slice (some aH) ab.length aB] 33 (0, 0)) TK hb)
      have n7_ := aM (blk_below (g := gb169) (o := .cells #[.slice none 0 0, .slice none 0 0, .int .i64 0, .int .i64 0, .int .i64 0, .slice none 0 0] 33 (0, 0)) TK hb)
      have n8_ := aM (blk_below (g := gb182) (o := .cells #[.slice bo ai.length bn, .slice bk aj.length bj, .int .i64 ae, .int .i64 ah, .int .i64 ad, .slice aN am.length aO] 33 (0, 0)) TK hb)
      have n9_ := aM (below_step TB hb)
      clear ag
      clear af
      clear al
      clear ac
      clear an
      clear aa
      clear HB
      have ag := n0_
      have af := n1_
      have al := n2_
      have bJ := n3_
      have bH := n4_
      have bM := n5_
      have ac := n6_
      have an := n7_
      have aa := n8_
      have HB := n9_
      clear n0_ n1_ n2_ n3_ n4_ n5_ n6_ n7_ n8_ n9_
      (try clear hb)
      (try clear hb2)
      (try clear hk)
      (try clear hi)
      (try clear ho0)
      (try clear ho1)
      (try clear ho2)
      obtain ⟨aY, aW, eo34⟩ := Kd.R_slice bJ.out
      (first | subst eo34 | (injection eo34 with f1_ f2_ f3_; have f4_ := f1_.symm; have f5_ := f3_.symm; clear f1_ f2_ f3_; subst f4_; subst f5_))
      obtain ⟨aZ, a7, eo36⟩ := Kd.R_slice bH.out
      (first | subst eo36 | (injection eo36 with f1_ f2_ f3_; have f4_ := f1_.symm; have f5_ := f3_.symm; clear f1_ f2_ f3_; subst f4_; subst f5_))
      obtain ⟨bu, bx, eo41⟩ := Kd.S_slice bM.out
      (first | subst eo41 | (injection eo41 with f1_ f2_ f3_; have f4_ := f1_.symm; have f5_ := f3_.symm; clear f1_ f2_ f3_; subst f4_; subst f5_))
      refine hK.out _ _ ⟨(blk_cell aa.out 0).trans rfl, (blk_cell aa.out 1).trans rfl, (blk_cell aa.out 2).trans rfl, (blk_cell aa.out 3).trans rfl, (blk_cell aa.out 4).trans rfl, (blk_cell aa.out 5).trans rfl, (blk_cell ac.out 0).trans rfl, (blk_cell ac.out 1).trans rfl, (blk_cell ac.out 2).trans rfl, (blk_cell ac.out 3).trans rfl, (blk_cell ac.out 4).trans rfl, (blk_cell ac.out 5).trans rfl, ((HB.out.cell (World.block_lt_of_cell? w _ be)).trans be), ((HB.out.cell (World.block_lt_of_cell? w _ bd)).trans bd), ((HB.out.cell (World.block_lt_of_cell? w _ a9)).trans a9), ((HB.out.cell (World.block_lt_of_cell? w _ bb)).trans bb), ((HB.out.cell (World.block_lt_of_cell? w _ bc)).trans bc), ((HB.out.cell (World.block_lt_of_cell? w _ ba)).trans ba)⟩ (fun hHeld => ?_)
      clear hK K
      refine nR ?_
      refine pL 7 none (fun K hK => ?_)
      have hs35 : w33.cell? ⟨gb182, 0, none⟩ = some (.slice bo ai.length bn) := (blk_cell aa.out 0).trans rfl
      have hfs35 := blk_frozen aa.out 0
      have hns35_0 := NB168_182.out
      have hns35_1 := NB169_182.out
      have hms35_0 := NB182_168.out
      have hms35_1 := NB182_169.out
      have hs37 : w33.cell? ⟨gb182, 1, none⟩ = some (.slice bk aj.length bj) := (blk_cell aa.out 1).trans rfl
      have hfs37 := blk_frozen aa.out 1
      have hns37_0 := NB168_182.out
      have hns37_1 := NB169_182.out
      have hms37_0 := NB182_168.out
      have hms37_1 := NB182_169.out
      have hs38 : w33.cell? ⟨gb182, 2, none⟩ = some (.int .i64 ae) := (blk_cell aa.out 2).trans rfl
      have hfs38 := blk_frozen aa.out 2
      have hns38_0 := NB168_182.out
      have hns38_1 := NB169_182.out
      have hms38_0 := NB182_168.out
      have hms38_1 := NB182_169.out
      have hs39 : w33.cell? ⟨gb182, 3, none⟩ = some (.int .i64 ah) := (blk_cell aa.out 3).trans rfl
      have hfs39 := blk_frozen aa.out 3
      have hns39_0 := NB168_182.out
      have hns39_1 := NB169_182.out
      have hms39_0 := NB182_168.out
      have hms39_1 := NB182_169.out
      have hs40 : w33.cell? ⟨gb182, 4, none⟩ = some (.int .i64 ad) := (blk_cell aa.out 4).trans rfl
      have hfs40 := blk_frozen aa.out 4
      have hns40_0 := NB168_182.out
      have hns40_1 := NB169_182.out
      have hms40_0 := NB182_168.out
      have hms40_1 := NB182_169.out
      have hs42 : w33.cell? ⟨gb182, 5, none⟩ = some (.slice aN am.length aO) := (blk_cell aa.out 5).trans rfl
      have hfs42 := blk_frozen aa.out 5
      have hns42_0 := NB168_182.out
      have hns42_1 := NB169_182.out
      have hms42_0 := NB182_168.out
      have hms42_1 := NB182_169.out
      refine skip_ (w1 := ?_) (by rfl) rfl ?_ ?_
      rotate_left
      ·go_simp
       rfl
      refine hK.out _ _ ?_
      clear hK K
      refine done_ (done_of HT_.out (by kernel_rfl)) ?_
      try go_wp2
      go_roundg k1
      case measure => have := HK1.out; omega
      case rel => exact ⟨(wrap64 (ak + 1)), (aK), (aP), (a8), (bg), (bh), (bi), (.slice aY aK.length aW), (.slice aZ aP.length a7), (.slice bu bi.length bx), (by first | rfl | (simp; done) | (simp [*]; done)), H', ⟨by have := HK1.out; omega⟩, ⟨by (with_reducible repeat (first | apply Kd.R_alloc | apply Kd.R_drewN | apply Kd.R_drew)); exact Kd.R_mono (Kd.R_far (p := ⟨gb182, 5, none⟩) (Kd.R_far (p := ⟨gb182, 4, none⟩) (Kd.R_far (p := ⟨gb182, 3, none⟩) (Kd.R_far (p := ⟨gb182, 2, none⟩) (Kd.R_far (p := ⟨gb182, 1, none⟩) (Kd.R_far (p := ⟨gb182, 0, none⟩) (Kd.R_types bJ.out aa.out (by decide)) (fun _ hk => hk.2) (.slice aY aK.length aW)) (fun _ hk => hk.2) (.slice aZ aP.length a7)) (fun _ hk => hk.2) (.int .i64 a8)) (fun _ hk => hk.2) (.int .i64 bg)) (fun _ hk => hk.2) (.int .i64 bh)) (fun _ hk => hk.2) (.slice bu bi.length bx)) (fun _ hk => hk.1.1.1)⟩, ⟨by (with_reducible repeat (first | apply Kd.R_alloc | apply Kd.R_drewN | apply Kd.R_drew)); exact Kd.R_mono (Kd.R_far (p := ⟨gb182, 5, none⟩) (Kd.R_far (p := ⟨gb182, 4, none⟩) (Kd.R_far (p := ⟨gb182, 3, none⟩) (Kd.R_far (p := ⟨gb182, 2, none⟩) (Kd.R_far (p := ⟨gb182, 1, none⟩) (Kd.R_far (p := ⟨gb182, 0, none⟩) (Kd.R_types bH.out aa.out (by decide)) (fun _ hk => hk.2) (.slice aY aK.length aW)) (fun _ hk => hk.2) (.slice aZ aP.length a7)) (fun _ hk => hk.2) (.int .i64 a8)) (fun _ hk => hk.2) (.int .i64 bg)) (fun _ hk => hk.2) (.int .i64 bh)) (fun _ hk => hk.2) (.slice bu bi.length bx)) (fun _ hk => hk.1.1.1)⟩, ⟨by (with_reducible repeat (first | apply Kd.S_alloc | apply Kd.S_drewN | apply Kd.S_drew)); exact Kd.S_mono (Kd.S_far (p := ⟨gb182, 5, none⟩) (Kd.S_far (p := ⟨gb182, 4, none⟩) (Kd.S_far (p := ⟨gb182, 3, none⟩) (Kd.S_far (p := ⟨gb182, 2, none⟩) (Kd.S_far (p := ⟨gb182, 1, none⟩) (Kd.S_far (p := ⟨gb182, 0, none⟩) (Kd.S_types bM.out aa.out (by decide)) (fun _ hk => hk.2) (.slice aY aK.length aW)) (fun _ hk => hk.2) (.slice aZ aP.length a7)) (fun _ hk => hk.2) (.int .i64 a8)) (fun _ hk => hk.2) (.int .i64 bg)) (fun _ hk => hk.2) (.int .i64 bh)) (fun _ hk => hk.2) (.slice bu bi.length bx)) (fun _ hk => ⟨hk.1.1.1.1.1, hk.1.1.1.1.2⟩)⟩, ⟨by (with_reducible repeat (first | refine blk_drewN ?_ _ | refine blk_drew ?_ | refine blk_alloc ?_ _)); refine blk_far ?_ NB168_182.out _; (with_reducible repeat (first | refine blk_drewN ?_ _ | refine blk_drew ?_ | refine blk_alloc ?_ _)); refine blk_far ?_ NB168_182.out _; (with_reducible repeat (first | refine blk_drewN ?_ _ | refine blk_drew ?_ | refine blk_alloc ?_ _)); refine blk_far ?_ NB168_182.out _; (with_reducible repeat (first | refine blk_drewN ?_ _ | refine blk_drew ?_ | refine blk_alloc ?_ _)); refine blk_far ?_ NB168_182.out _; (with_reducible repeat (first | refine blk_drewN ?_ _ | refine blk_drew ?_ | refine blk_alloc ?_ _)); refine blk_far ?_ NB168_182.out _; (with_reducible repeat (first | refine blk_drewN ?_ _ | refine blk_drew ?_ | refine blk_alloc ?_ _)); refine blk_far ?_ NB168_182.out _; (with_reducible repeat (first | refine blk_drewN ?_ _ | refine blk_drew ?_ | refine blk_alloc ?_ _)); exact ac.out⟩, ⟨by (with_reducible repeat (first | refine blk_drewN ?_ _ | refine blk_drew ?_ | refine blk_alloc ?_ _)); refine blk_far ?_ NB169_182.out _; (with_reducible repeat (first | refine blk_drewN ?_ _ | refine blk_drew ?_ | refine blk_alloc ?_ _)); refine blk_far ?_ NB169_182.out _; (with_reducible repeat (first | refine blk_drewN ?_ _ | refine blk_drew ?_ | refine blk_alloc ?_ _)); refine blk_far ?_ NB169_182.out _; (with_reducible repeat (first | refine blk_drewN ?_ _ | refine blk_drew ?_ | refine blk_alloc ?_ _)); refine blk_far ?_ NB169_182.out _; (with_reducible repeat (first | refine blk_drewN ?_ _ | refine blk_drew ?_ | refine blk_alloc ?_ _)); refine blk_far ?_ NB169_182.out _; (with_reducible repeat (first | refine blk_drewN ?_ _ | refine blk_drew ?_ | refine blk_alloc ?_ _)); refine blk_far ?_ NB169_182.out _; (with_reducible repeat (first | refine blk_drewN ?_ _ | refine blk_drew ?_ | refine blk_alloc ?_ _)); exact an.out⟩, ⟨by (with_reducible repeat (first | refine blk_drewN ?_ _ | refine blk_drew ?_ | refine blk_alloc ?_ _)); refine blk_put (cs := #[.slice aY aK.length aW, .slice aZ aP.length a7, .int .i64 a8, .int .i64 bg, .int .i64 bh, .slice aN am.length aO]) ?_ 5 _ rfl; (with_reducible repeat (first | refine blk_drewN ?_ _ | refine blk_drew ?_ | refine blk_alloc ?_ _)); refine blk_put (cs := #[.slice aY aK.length aW, .slice aZ aP.length a7, .int .i64 a8, .int .i64 bg, .int .i64 ad, .slice aN am.length aO]) ?_ 4 _ rfl; (with_reducible repeat (first | refine blk_drewN ?_ _ | refine blk_drew ?_ | refine blk_alloc ?_ _)); refine blk_put (cs := #[.slice aY aK.length aW, .slice aZ aP.length a7, .int .i64 a8, .int .i64 ah, .int .i64 ad, .slice aN am.length aO]) ?_ 3 _ rfl; (with_reducible repeat (first | refine blk_drewN ?_ _ | refine blk_drew ?_ | refine blk_alloc ?_ _)); refine blk_put (cs := #[.slice aY aK.length aW, .slice aZ aP.length a7, .int .i64 ae, .int .i64 ah, .int .i64 ad, .slice aN am.length aO]) ?_ 2 _ rfl; (with_reducible repeat (first | refine blk_drewN ?_ _ | refine blk_drew ?_ | refine blk_alloc ?_ _)); refine blk_put (cs := #[.slice aY aK.length aW, .slice bk aj.length bj, .int .i64 ae, .int .i64 ah, .int .i64 ad, .slice aN am.length aO]) ?_ 1 _ rfl; (with_reducible repeat (first | refine blk_drewN ?_ _ | refine blk_drew ?_ | refine blk_alloc ?_ _)); refine blk_put (cs := #[.slice bo ai.length bn, .slice bk aj.length bj, .int .i64 ae, .int .i64 ah, .int .i64 ad, .slice aN am.length aO]) ?_ 0 _ rfl; (with_reducible repeat (first | refine blk_drewN ?_ _ | refine blk_drew ?_ | refine blk_alloc ?_ _)); exact aa.out⟩, ⟨TB⟩⟩
     ·replace c23 := Bool.eq_false_iff.mpr c23
      subst c23
      replace H := ifF H
      have H' := aM H
      clear H
      have hnb43 := NB168_169.out
      have hnc43 := NB169_168.out
      have hnb44 := NB168_182.out
      have hnc44 := NB182_168.out
      obtain ⟨hcz45_0, hcz45_1, hcz45_2, hcz45_3, hcz45_4, hcz45_5⟩ := cz6 ac.out
      obtain ⟨hfz45_0, hfz45_1, hfz45_2, hfz45_3, hfz45_4, hfz45_5⟩ := fz6 ac.out
      go_wp2_with (first | ((with_reducible refine gate_callee (f := 138) rfl ?_); refine gL (some 22) Try.func138 #[.int .i64 a1, .int .i64 ak] ?_; (with_reducible refine (spec_InSet.calls a1 ak false _ A22.out).mono ?_); rintro e w' ⟨rfl, ⟨nd, rfl⟩⟩; refine ⟨_, rfl, ?_⟩))
      go_roundg k1
      case measure => have := HK1.out; omega
      case rel => exact ⟨(wrap64 (ak + 1)), (ai), (aj), (ae), (ah), (ad), (am), (ay), (aC), (aJ), (by first | rfl | (simp; done) | (simp [*]; done)), H', ⟨by have := HK1.out; omega⟩, ⟨by have X_ := ag.out; exact TR⟩, ⟨by have X_ := af.out; exact TR⟩, ⟨by have X_ := al.out; exact TS⟩, ⟨TK⟩, ⟨TK⟩, ⟨TK⟩, ⟨TB⟩⟩
    ·rw [if_neg c21] at H
     have c21b0 : decide (ak < (ab.length : Int)) = false := decide_eq_false c21
     clear c21
     obtain ⟨bf, bw⟩ : ∃ y_ : List (S110), y_ = (([] : List (S110))) := ⟨_, rfl⟩
     rw [← bw] at H
     have bL := aM bw
     clear bw
     simp only [Option.some.injEq, Prod.mk.injEq] at H
     obtain ⟨rfl, rfl, rfl, rfl, rfl, rfl⟩ := H
     have hnb46 := NB168_169.out
     have hnc46 := NB169_168.out
     have hnb47 := NB168_182.out
     have hnc47 := NB182_168.out
     obtain ⟨hcz48_0, hcz48_1, hcz48_2, hcz48_3, hcz48_4, hcz48_5⟩ := cz6 ac.out
     obtain ⟨hfz48_0, hfz48_1, hfz48_2, hfz48_3, hfz48_4, hfz48_5⟩ := fz6 ac.out
     go_wp2_with (first | ((with_reducible refine gate_dst (N := 30) rfl ?_); refine Kd.S_lit k110 _ 110 ?hg (N := 30) ?hd (xs := ([] : List (S110))) (inner := []) (ok := fun _ => True) (okp := fun _ => True) ?hr ?hp (fun _ hk => hk) trivial (Below.refl _ _) (Nat.le_refl _) (by simp) ?_; (case hd => rfl); (case hg => rfl); (case hr => first | (go_simp; done) | (go_simp; rfl)); (case hp => exact (Reps.none _ _)); intro v185 w49 bl hb hg_ hnew_; clear hg_ hnew_; (first | rw [← bL.out] at bl | (simp only [Int.reduceToNat] at bl; rw [← bL.out] at bl)); have HO186 := aM (Kd.S_lower (Kd.S_new' (Kd.S_new' (Kd.S_new' bl (Kd.R_lt (by have X_ := ag.out; exact TR))) (Kd.R_lt (by have X_ := af.out; exact TR))) (Kd.S_lt (by have X_ := al.out; exact TS))) (below_size TB)); replace ag := aM (Kd.R_below (by have X_ := ag.out; exact TR) hb); replace af := aM (Kd.R_below (by have X_ := af.out; exact TR) hb); replace al := aM (Kd.S_elder' (by have X_ := al.out; exact TS) (Kd.S_base bl) hb); replace ac := aM (blk_below (g := ao) (o := .cells #[.slice az ap.length aE, .slice aA aq.length aD, .int .i64 aw, .int .i64 ar, .int .i64 au, .slice aF ab.length aB] 33 (0, 0)) TK hb); replace an := aM (blk_below (g := gb169) (o := .cells #[.slice none 0 0, .slice none 0 0, .int .i64 0, .int .i64 0, .int .i64 0, .slice none 0 0] 33 (0, 0)) TK hb); replace aa := aM (blk_below (g := gb182) (o := .cells #[ay, aC, .int .i64 ae, .int .i64 ah, .int .i64 ad, aJ] 33 (0, 0)) TK hb); replace HB := aM (below_step TB hb); clear hb bl; obtain ⟨Ao51, co51, eo51⟩ := Kd.S_slice HO186.out; subst eo51; have hnb52 := NB182_169.out; have hnc52 := NB169_182.out; obtain ⟨hcz53_0, hcz53_1, hcz53_2, hcz53_3, hcz53_4, hcz53_5⟩ := cz6 aa.out; obtain ⟨hfz53_0, hfz53_1, hfz53_2, hfz53_3, hfz53_4, hfz53_5⟩ := fz6 aa.out; obtain ⟨Ao54, co54, eo54⟩ := Kd.R_slice ag.out; subst eo54; obtain ⟨hcz55_0, hcz55_1, hcz55_2, hcz55_3, hcz55_4, hcz55_5⟩ := cz6 an.out; obtain ⟨hfz55_0, hfz55_1, hfz55_2, hfz55_3, hfz55_4, hfz55_5⟩ := fz6 an.out; obtain ⟨Ao56, co56, eo56⟩ := Kd.R_slice af.out; subst eo56))
     refine bodyPost_ret (results_cell_row rfl _ _ gb169 33 #[.slice Ao54 ai.length co54, .slice Ao56 aj.length co56, .int .i64 ae, .int .i64 ah, .int .i64 ad, .slice Ao51 bf.length co51] (0, 0) _ rfl (by (with_reducible repeat (first | refine blk_drewN ?_ _ | refine blk_drew ?_ | refine blk_alloc ?_ _)); refine blk_put (cs := #[.slice Ao54 ai.length co54, .slice Ao56 aj.length co56, .int .i64 ae, .int .i64 ah, .int .i64 ad, .slice none 0 0]) ?_ 5 _ rfl; (with_reducible repeat (first | refine blk_drewN ?_ _ | refine blk_drew ?_ | refine blk_alloc ?_ _)); refine blk_put (cs := #[.slice Ao54 ai.length co54, .slice Ao56 aj.length co56, .int .i64 ae, .int .i64 ah, .int .i64 0, .slice none 0 0]) ?_ 4 _ rfl; (with_reducible repeat (first | refine blk_drewN ?_ _ | refine blk_drew ?_ | refine blk_alloc ?_ _)); refine blk_put (cs := #[.slice Ao54 ai.length co54, .slice Ao56 aj.length co56, .int .i64 ae, .int .i64 0, .int .i64 0, .slice none 0 0]) ?_ 3 _ rfl; (with_reducible repeat (first | refine blk_drewN ?_ _ | refine blk_drew ?_ | refine blk_alloc ?_ _)); refine blk_put (cs := #[.slice Ao54 ai.length co54, .slice Ao56 aj.length co56, .int .i64 0, .int .i64 0, .int .i64 0, .slice none 0 0]) ?_ 2 _ rfl; (with_reducible repeat (first | refine blk_drewN ?_ _ | refine blk_drew ?_ | refine blk_alloc ?_ _)); refine blk_put (cs := #[.slice Ao54 ai.length co54, .slice none 0 0, .int .i64 0, .int .i64 0, .int .i64 0, .slice none 0 0]) ?_ 1 _ rfl; (with_reducible repeat (first | refine blk_drewN ?_ _ | refine blk_drew ?_ | refine blk_alloc ?_ _)); refine blk_put (cs := #[.slice none 0 0, .slice none 0 0, .int .i64 0, .int .i64 0, .int .i64 0, .slice none 0 0]) ?_ 0 _ rfl; (with_reducible repeat (first | refine blk_drewN ?_ _ | refine blk_drew ?_ | refine blk_alloc ?_ _)); refine blk_far ?_ NB169_182.out _; (with_reducible repeat (first | refine blk_drewN ?_ _ | refine blk_drew ?_ | refine blk_alloc ?_ _)); exact an.out) Try.underlying33 rfl (by kernel_rfl)) rfl ?_
     exact ⟨_, _, _, by first | rfl | (simp [errW_none, errW_some] <;> rfl) | (simp [*, errW_none, errW_some] <;> rfl), by (with_reducible repeat (first | apply Kd.R_alloc | apply Kd.R_drewN | apply Kd.R_drew)); exact Kd.R_mono (Kd.R_far (p := ⟨gb169, 5, none⟩) (Kd.R_far (p := ⟨gb169, 4, none⟩) (Kd.R_far (p := ⟨gb169, 3, none⟩) (Kd.R_far (p := ⟨gb169, 2, none⟩) (Kd.R_far (p := ⟨gb169, 1, none⟩) (Kd.R_far (p := ⟨gb169, 0, none⟩) (Kd.R_far (p := ⟨gb182, 5, none⟩) (Kd.R_types (Kd.R_types ag.out aa.out (by decide)) an.out (by decide)) (fun _ hk => hk.1.2) (.slice Ao51 bf.length co51)) (fun _ hk => hk.2) (.slice Ao54 ai.length co54)) (fun _ hk => hk.2) (.slice Ao56 aj.length co56)) (fun _ hk => hk.2) (.int .i64 ae)) (fun _ hk => hk.2) (.int .i64 ah)) (fun _ hk => hk.2) (.int .i64 ad)) (fun _ hk => hk.2) (.slice Ao51 bf.length co51)) (fun _ hk => hk.1.1), by (with_reducible repeat (first | apply Kd.R_alloc | apply Kd.R_drewN | apply Kd.R_drew)); exact Kd.R_mono (Kd.R_far (p := ⟨gb169, 5, none⟩) (Kd.R_far (p := ⟨gb169, 4, none⟩) (Kd.R_far (p := ⟨gb169, 3, none⟩) (Kd.R_far (p := ⟨gb169, 2, none⟩) (Kd.R_far (p := ⟨gb169, 1, none⟩) (Kd.R_far (p := ⟨gb169, 0, none⟩) (Kd.R_far (p := ⟨gb182, 5, none⟩) (Kd.R_types (Kd.R_types af.out aa.out (by decide)) an.out (by decide)) (fun _ hk => hk.1.2) (.slice Ao51 bf.length co51)) (fun _ hk => hk.2) (.slice Ao54 ai.length co54)) (fun _ hk => hk.2) (.slice Ao56 aj.length co56)) (fun _ hk => hk.2) (.int .i64 ae)) (fun _ hk => hk.2) (.int .i64 ah)) (fun _ hk => hk.2) (.int .i64 ad)) (fun _ hk => hk.2) (.slice Ao51 bf.length co51)) (fun _ hk => hk.1.1), by (with_reducible repeat (first | apply Kd.S_alloc | apply Kd.S_drewN | apply Kd.S_drew)); exact Kd.S_mono (Kd.S_far (p := ⟨gb169, 5, none⟩) (Kd.S_far (p := ⟨gb169, 4, none⟩) (Kd.S_far (p := ⟨gb169, 3, none⟩) (Kd.S_far (p := ⟨gb169, 2, none⟩) (Kd.S_far (p := ⟨gb169, 1, none⟩) (Kd.S_far (p := ⟨gb169, 0, none⟩) (Kd.S_far (p := ⟨gb182, 5, none⟩) (Kd.S_types (Kd.S_types HO186.out aa.out (by decide)) an.out (by decide)) (fun _ hk => hk.1.2) (.slice Ao51 bf.length co51)) (fun _ hk => hk.2) (.slice Ao54 ai.length co54)) (fun _ hk => hk.2) (.slice Ao56 aj.length co56)) (fun _ hk => hk.2) (.int .i64 ae)) (fun _ hk => hk.2) (.int .i64 ah)) (fun _ hk => hk.2) (.int .i64 ad)) (fun _ hk => hk.2) (.slice Ao51 bf.length co51)) (fun _ hk => ⟨hk.1.1.1.1.2, hk.1.1.1.2⟩), TB⟩
 ·replace c19 := Bool.eq_false_iff.mpr c19
  subst c19
  replace H := ifF H
  simp only [Option.some.injEq, Prod.mk.injEq] at H
  obtain ⟨rfl, rfl, rfl, rfl, rfl, rfl⟩ := H
  go_wp2_with (first | ((with_reducible refine gate_callee (f := 69) rfl ?_); refine gL (some 10) Try.func69 #[.agg #[.slice az ap.length aE, .slice aA aq.length aD, .int .i64 aw, .int .i64 ar, .int .i64 au, .slice aF ab.length aB]] ?_; (with_reducible refine (spec_DiskOk.calls k _ _ ap _ _ aq aw ar au _ _ ab false _ ?side1 ?side2 ?side3 ?side4 ?side5 ?side6 A4.out).mono ?_); (case side1 => exact Kd.C_below bv.out TB); (case side2 => exact bt.out); (case side3 => exact Kd.C_below bA.out TB); (case side4 => exact bs.out); (case side5 => exact Kd.C_below bm.out TB); (case side6 => exact bz.out); rintro e w57 ⟨rfl, hb⟩; refine ⟨_, rfl, ?_⟩; replace HO172 := aM (Kd.R_below (by (with_reducible repeat (first | apply Kd.R_alloc | apply Kd.R_drewN | apply Kd.R_drew)); exact (R_off (Kd.R_types HO172.out aa.out (by decide)) TO)) hb); replace HO175 := aM (Kd.R_below (by (with_reducible repeat (first | apply Kd.R_alloc | apply Kd.R_drewN | apply Kd.R_drew)); exact (R_off (Kd.R_types HO175.out aa.out (by decide)) TO)) hb); replace HO181 := aM (Kd.S_below (by (with_reducible repeat (first | apply Kd.S_alloc | apply Kd.S_drewN | apply Kd.S_drew)); exact (S_off (Kd.S_types HO181.out aa.out (by decide)) TO)) hb); replace ac := aM (blk_below (g := ao) (o := .cells #[.slice az ap.length aE, .slice aA aq.length aD, .int .i64 aw, .int .i64 ar, .int .i64 au, .slice aF ab.length aB] 33 (0, 0)) (by (with_reducible repeat (first | refine blk_drewN ?_ _ | refine blk_drew ?_ | refine blk_alloc ?_ _)); refine blk_far ?_ NB168_182.out _; (with_reducible repeat (first | refine blk_drewN ?_ _ | refine blk_drew ?_ | refine blk_alloc ?_ _)); refine blk_far ?_ NB168_182.out _; (with_reducible repeat (first | refine blk_drewN ?_ _ | refine blk_drew ?_ | refine blk_alloc ?_ _)); refine blk_far ?_ NB168_182.out _; (with_reducible repeat (first | refine blk_drewN ?_ _ | refine blk_drew ?_ | refine blk_alloc ?_ _)); refine blk_far ?_ NB168_182.out _; (with_reducible repeat (first | refine blk_drewN ?_ _ | refine blk_drew ?_ | refine blk_alloc ?_ _)); refine blk_far ?_ NB168_182.out _; (with_reducible repeat (first | refine blk_drewN ?_ _ | refine blk_drew ?_ | refine blk_alloc ?_ _)); refine blk_far ?_ NB168_182.out _; (with_reducible repeat (first | refine blk_drewN ?_ _ | refine blk_drew ?_ | refine blk_alloc ?_ _)); exact ac.out) hb); replace an := aM (blk_below (g := gb169) (o := .cells #[.slice none 0 0, .slice none 0 0, .int .i64 0, .int .i64 0, .int .i64 0, .slice none 0 0] 33 (0, 0)) (by (with_reducible repeat (first | refine blk_drewN ?_ _ | refine blk_drew ?_ | refine blk_alloc ?_ _)); refine blk_far ?_ NB169_182.out _; (with_reducible repeat (first | refine blk_drewN ?_ _ | refine blk_drew ?_ | refine blk_alloc ?_ _)); refine blk_far ?_ NB169_182.out _; (with_reducible repeat (first | refine blk_drewN ?_ _ | refine blk_drew ?_ | refine blk_alloc ?_ _)); refine blk_far ?_ NB169_182.out _; (with_reducible repeat (first | refine blk_drewN ?_ _ | refine blk_drew ?_ | refine blk_alloc ?_ _)); refine blk_far ?_ NB169_182.out _; (with_reducible repeat (first | refine blk_drewN ?_ _ | refine blk_drew ?_ | refine blk_alloc ?_ _)); refine blk_far ?_ NB169_182.out _; (with_reducible repeat (first | refine blk_drewN ?_ _ | refine blk_drew ?_ | refine blk_alloc ?_ _)); refine blk_far ?_ NB169_182.out _; (with_reducible repeat (first | refine blk_drewN ?_ _ | refine blk_drew ?_ | refine blk_alloc ?_ _)); exact an.out) hb); replace aa := aM (blk_below (g := gb182) (o := .cells #[.slice Ao12 av.length co12, .slice Ao16 ax.length co16, .int .i64 aG, .int .i64 aI, .int .i64 aL, .slice Ao17 aX.length co17] 33 (0, 0)) (by (with_reducible repeat (first | refine blk_drewN ?_ _ | refine blk_drew ?_ | refine blk_alloc ?_ _)); refine blk_put (cs := #[.slice Ao12 av.length co12, .slice Ao16 ax.length co16, .int .i64 aG, .int .i64 aI, .int .i64 aL, .slice none 0 0]) ?_ 5 _ rfl; (with_reducible repeat (first | refine blk_drewN ?_ _ | refine blk_drew ?_ | refine blk_alloc ?_ _)); refine blk_put (cs := #[.slice Ao12 av.length co12, .slice Ao16 ax.length co16, .int .i64 aG, .int .i64 aI, .int .i64 0, .slice none 0 0]) ?_ 4 _ rfl; (with_reducible repeat (first | refine blk_drewN ?_ _ | refine blk_drew ?_ | refine blk_alloc ?_ _)); refine blk_put (cs := #[.slice Ao12 av.length co12, .slice Ao16 ax.length co16, .int .i64 aG, .int .i64 0, .int .i64 0, .slice none 0 0]) ?_ 3 _ rfl; (with_reducible repeat (first | refine blk_drewN ?_ _ | refine blk_drew ?_ | refine blk_alloc ?_ _)); refine blk_put (cs := #[.slice Ao12 av.length co12, .slice Ao16 ax.length co16, .int .i64 0, .int .i64 0, .int .i64 0, .slice none 0 0]) ?_ 2 _ rfl; (with_reducible repeat (first | refine blk_drewN ?_ _ | refine blk_drew ?_ | refine blk_alloc ?_ _)); refine blk_put (cs := #[.slice Ao12 av.length co12, .slice none 0 0, .int .i64 0, .int .i64 0, .int .i64 0, .slice none 0 0]) ?_ 1 _ rfl; (with_reducible repeat (first | refine blk_drewN ?_ _ | refine blk_drew ?_ | refine blk_alloc ?_ _)); refine blk_put (cs := #[.slice none 0 0, .slice none 0 0, .int .i64 0, .int .i64 0, .int .i64 0, .slice none 0 0]) ?_ 0 _ rfl; (with_reducible repeat (first | refine blk_drewN ?_ _ | refine blk_drew ?_ | refine blk_alloc ?_ _)); exact aa.out) hb); replace HB := aM (below_step TB hb); clear hb; have hnb58 := NB182_168.out; have hnc58 := NB168_182.out; have hnb59 := NB182_169.out; have hnc59 := NB169_182.out; obtain ⟨hcz60_0, hcz60_1, hcz60_2, hcz60_3, hcz60_4, hcz60_5⟩ := cz6 aa.out; obtain ⟨hfz60_0, hfz60_1, hfz60_2, hfz60_3, hfz60_4, hfz60_5⟩ := fz6 aa.out; have hnb61 := NB169_168.out; have hnc61 := NB168_169.out; obtain ⟨hcz62_0, hcz62_1, hcz62_2, hcz62_3, hcz62_4, hcz62_5⟩ := cz6 an.out; obtain ⟨hfz62_0, hfz62_1, hfz62_2, hfz62_3, hfz62_4, hfz62_5⟩ := fz6 an.out))
  refine bodyPost_ret (results_cell_row rfl _ _ gb169 33 #[.slice Ao12 av.length co12, .slice Ao16 ax.length co16, .int .i64 aG, .int .i64 aI, .int .i64 aL, .slice Ao17 aX.length co17] (0, 0) _ rfl (by (with_reducible repeat (first | refine blk_drewN ?_ _ | refine blk_drew ?_ | refine blk_alloc ?_ _)); refine blk_put (cs := #[.slice Ao12 av.length co12, .slice Ao16 ax.length co16, .int .i64 aG, .int .i64 aI, .int .i64 aL, .slice none 0 0]) ?_ 5 _ rfl; (with_reducible repeat (first | refine blk_drewN ?_ _ | refine blk_drew ?_ | refine blk_alloc ?_ _)); refine blk_put (cs := #[.slice Ao12 av.length co12, .slice Ao16 ax.length co16, .int .i64 aG, .int .i64 aI, .int .i64 0, .slice none 0 0]) ?_ 4 _ rfl; (with_reducible repeat (first | refine blk_drewN ?_ _ | refine blk_drew ?_ | refine blk_alloc ?_ _)); refine blk_put (cs := #[.slice Ao12 av.length co12, .slice Ao16 ax.length co16, .int .i64 aG, .int .i64 0, .int .i64 0, .slice none 0 0]) ?_ 3 _ rfl; (with_reducible repeat (first | refine blk_drewN ?_ _ | refine blk_drew ?_ | refine blk_alloc ?_ _)); refine blk_put (cs := #[.slice Ao12 av.length co12, .slice Ao16 ax.length co16, .int .i64 0, .int .i64 0, .int .i64 0, .slice none 0 0]) ?_ 2 _ rfl; (with_reducible repeat (first | refine blk_drewN ?_ _ | refine blk_drew ?_ | refine blk_alloc ?_ _)); refine blk_put (cs := #[.slice Ao12 av.length co12, .slice none 0 0, .int .i64 0, .int .i64 0, .int .i64 0, .slice none 0 0]) ?_ 1 _ rfl; (with_reducible repeat (first | refine blk_drewN ?_ _ | refine blk_drew ?_ | refine blk_alloc ?_ _)); refine blk_put (cs := #[.slice none 0 0, .slice none 0 0, .int .i64 0, .int .i64 0, .int .i64 0, .slice none 0 0]) ?_ 0 _ rfl; (with_reducible repeat (first | refine blk_drewN ?_ _ | refine blk_drew ?_ | refine blk_alloc ?_ _)); exact an.out) Try.underlying33 rfl (by kernel_rfl)) rfl ?_
  exact ⟨_, _, _, by first | rfl | (simp [errW_none, errW_some] <;> rfl) | (simp [*, errW_none, errW_some] <;> rfl), by (with_reducible repeat (first | apply Kd.R_alloc | apply Kd.R_drewN | apply Kd.R_drew)); exact Kd.R_mono (Kd.R_far (p := ⟨gb169, 5, none⟩) (Kd.R_far (p := ⟨gb169, 4, none⟩) (Kd.R_far (p := ⟨gb169, 3, none⟩) (Kd.R_far (p := ⟨gb169, 2, none⟩) (Kd.R_far (p := ⟨gb169, 1, none⟩) (Kd.R_far (p := ⟨gb169, 0, none⟩) (Kd.R_types HO172.out an.out (by decide)) (fun _ hk => hk.2) (.slice Ao12 av.length co12)) (fun _ hk => hk.2) (.slice Ao16 ax.length co16)) (fun _ hk => hk.2) (.int .i64 aG)) (fun _ hk => hk.2) (.int .i64 aI)) (fun _ hk => hk.2) (.int .i64 aL)) (fun _ hk => hk.2) (.slice Ao17 aX.length co17)) (fun _ hk => hk.1), by (with_reducible repeat (first | apply Kd.R_alloc | apply Kd.R_drewN | apply Kd.R_drew)); exact Kd.R_mono (Kd.R_far (p := ⟨gb169, 5, none⟩) (Kd.R_far (p := ⟨gb169, 4, none⟩) (Kd.R_far (p := ⟨gb169, 3, none⟩) (Kd.R_far (p := ⟨gb169, 2, none⟩) (Kd.R_far (p := ⟨gb169, 1, none⟩) (Kd.R_far (p := ⟨gb169, 0, none⟩) (Kd.R_types HO175.out an.out (by decide)) (fun _ hk => hk.2) (.slice Ao12 av.length co12)) (fun _ hk => hk.2) (.slice Ao16 ax.length co16)) (fun _ hk => hk.2) (.int .i64 aG)) (fun _ hk => hk.2) (.int .i64 aI)) (fun _ hk => hk.2) (.int .i64 aL)) (fun _ hk => hk.2) (.slice Ao17 aX.length co17)) (fun _ hk => hk.1), by (with_reducible repeat (first | apply Kd.S_alloc | apply Kd.S_drewN | apply Kd.S_drew)); exact Kd.S_mono (Kd.S_far (p := ⟨gb169, 5, none⟩) (Kd.S_far (p := ⟨gb169, 4, none⟩) (Kd.S_far (p := ⟨gb169, 3, none⟩) (Kd.S_far (p := ⟨gb169, 2, none⟩) (Kd.S_far (p := ⟨gb169, 1, none⟩) (Kd.S_far (p := ⟨gb169, 0, none⟩) (Kd.S_types HO181.out an.out (by decide)) (fun _ hk => hk.2) (.slice Ao12 av.length co12)) (fun _ hk => hk.2) (.slice Ao16 ax.length co16)) (fun _ hk => hk.2) (.int .i64 aG)) (fun _ hk => hk.2) (.int .i64 aI)) (fun _ hk => hk.2) (.int .i64 aL)) (fun _ hk => hk.2) (.slice Ao17 aX.length co17)) (fun _ hk => ⟨hk.1.1, hk.1.2⟩), TB⟩

end Go.Proofs.Ytlghklbjmmijpaa.Q
