/- Functions of the program as plain Lean functions, and that a call of each comes to what its function tells. Written by a program of this seat. -/
import Derived.Test.YtogilihkphjjbaaQ0
import Derived.Test.YtogilihkphjjbaaQ20
import Derived.Test.YtogilihkphjjbaaQ34
import Derived.Test.YtogilihkphjjbaaQ36
import Derived.Test.YtogilihkphjjbaaQ53
namespace Go.Proofs.Ytogilihkphjjbaa.Q
open Go.RowKit Go.Proofs.YtogilihkphjjbaaW.PrintWords Go.Proofs.YtogilihkphjjbaaW.PrintLast Go.Proofs.YtogilihkphjjbaaW.PrintMore
attribute [local go_sem] max2_int min2_int max_two min_two max_three min_three max_four min_four   -- for this text's walks alone
set_option linter.unusedVariables false
set_option linter.unusedSimpArgs false

/-! ### spec_Fall: function 49 -/
def spec_Fall.l0 : Nat → Int → Int → List Int → List Int → Int → Int → Int → List (S55) → List Int → List Int → Int → Int → Int → List (S55) → Option (List Int × List Int × Int × Int × Int × (List (S55)))
  | 0, _, _, _, _, _, _, _, _, _, _, _, _, _, _ => none
  | k + 1, x1, x6, x810000, x810001, x810002, x810003, x810004, x810005, x824000, x824001, x824002, x824003, x824004, x824005 => if x6 < (x810005.length : Int) then ((spec_InSet.f x1 x6).bind fun t828 => (if t828 = true then (if 0 ≤ x6 then ((spec_OnePut.f k x824000 x824001 x824002 x824003 x824004 x824005 ((rd_T55 x810005 x6).f0) ((rd_T55 x810005 x6).f1) ((rd_T55 x810005 x6).f2) ((rd_T55 x810005 x6).f3.f0) ((rd_T55 x810005 x6).f3.f1) ((rd_T55 x810005 x6).f3.f2)).bind fun bt830 => (spec_Fall.l0 k x1 (wrap64 (x6 + 1)) x810000 x810001 x810002 x810003 x810004 x810005 bt830.1 bt830.2.1 bt830.2.2.1 bt830.2.2.2.1 bt830.2.2.2.2.1 bt830.2.2.2.2.2)) else (none)) else (spec_Fall.l0 k x1 (wrap64 (x6 + 1)) x810000 x810001 x810002 x810003 x810004 x810005 x824000 x824001 x824002 x824003 x824004 x824005))) else (some (x824000, x824001, x824002, x824003, x824004, (([] : List (S55)))))
def spec_Fall.f (k : Nat) (l0_0 : List Int) (l0_1 : List Int) (a0_2 : Int) (a0_3 : Int) (a0_4 : Int) (l0_5 : List (S55)) (a1 : Int) : Option (List Int × List Int × Int × Int × Int × (List (S55))) := (spec_l9Copy.f k l0_0 l0_1 a0_2 a0_3 a0_4 l0_5).bind fun bt811 => ((spec_DiskOk.f k l0_0 l0_1 a0_2 a0_3 a0_4 l0_5).bind fun t824 => (if t824 = true then (spec_Fall.l0 k a1 0 l0_0 l0_1 a0_2 a0_3 a0_4 l0_5 bt811.1 bt811.2.1 bt811.2.2.1 bt811.2.2.2.1 bt811.2.2.2.2.1 bt811.2.2.2.2.2) else (some (bt811.1, bt811.2.1, bt811.2.2.1, bt811.2.2.2.1, bt811.2.2.2.2.1, bt811.2.2.2.2.2))))
theorem spec_Fall.mono_l : ∀ k, (∀ y0 y1 y2 y3 y4 y5 y6 y7 y8 y9 y10 y11 y12 y13, LeO (spec_Fall.l0 k y0 y1 y2 y3 y4 y5 y6 y7 y8 y9 y10 y11 y12 y13) (spec_Fall.l0 (k + 1) y0 y1 y2 y3 y4 y5 y6 y7 y8 y9 y10 y11 y12 y13))
  | 0 => fun _ _ _ _ _ _ _ _ _ _ _ _ _ _ r h => by simp [spec_Fall.l0] at h
  | k + 1 => by
    have m0_ := @spec_DiskOk.mono
    have m1_ := @spec_OnePut.mono
    have m2_ := @spec_l9Copy.mono
    have ih0 := spec_Fall.mono_l k
    · intro y0 y1 y2 y3 y4 y5 y6 y7 y8 y9 y10 y11 y12 y13
      unfold spec_Fall.l0
      exact LM
theorem spec_Fall.mono : ∀ a0 a1 a2 a3 a4 a5 a6 k, LeO (spec_Fall.f k a0 a1 a2 a3 a4 a5 a6) (spec_Fall.f (k + 1) a0 a1 a2 a3 a4 a5 a6) := by
  intro a0 a1 a2 a3 a4 a5 a6 k
  have m0_ := @spec_DiskOk.mono
  have m1_ := @spec_OnePut.mono
  have m2_ := @spec_l9Copy.mono
  have ih0 := spec_Fall.mono_l k
  unfold spec_Fall.f
  exact LM
def spec_Fall.T8 : Bool × List (List Nat × List Nat) := (true, [([], []), ([], []), ([1], [1]), ([], []), ([2, 3], [2, 3]), ([4], [4]), ([0, 5], [0, 5]), ([6, 6, 0, 1, 2, 3, 4, 5, 6], [6])])
def spec_Fall.B8 : List Nat := [0, 0, 2, 0, 14, 30, 63, 127]
theorem spec_Fall.tab8 : rtab .any (opsOf Try.f49 8) = spec_Fall.T8 := by kernel_rfl
theorem spec_Fall.bits8 : waitsOk spec_Fall.T8.2 spec_Fall.B8 = true := by kernel_rfl
set_option maxHeartbeats 40000000 in
set_option maxRecDepth 100000 in
theorem spec_Fall.calls (k : Nat) (az : Option Addr) (aA : Nat) (aq : List Int) (aE : Option Addr) (aB : Nat) (ap : List Int) (au : Int) (aw : Int) (ar : Int) (aF : Option Addr) (ay : Nat) (ab : List (S55)) (a1 : Int) (r1 : List Int) (r2 : List Int) (r3 : Int) (r4 : Int) (r5 : Int) (r6 : List (S55)) (w : World) (bJ : Kd.C (Kd.int .u8) w az aq.length aq) (bH : aq.length ≤ aA) (bK : Kd.C (Kd.int .u8) w aE ap.length ap) (bL : ap.length ≤ aB) (bM : Kd.C k55 w aF ab.length ab) (bG : ab.length ≤ ay) (h : spec_Fall.f k aq ap au aw ar ab a1 = some (r1, r2, r3, r4, r5, r6)) :
  Calls Try.prog 49 #[.agg #[.slice az aq.length aA, .slice aE ap.length aB, .int .i64 au, .int .i64 aw, .int .i64 ar, .slice aF ab.length ay], .int .i64 a1] w fun e w' => ∃ v0_ v1_ v5_ : Value, e = .returned (.agg #[v0_, v1_, .int .i64 r3, .int .i64 r4, .int .i64 r5, v5_]) ∧ Kd.R (Kd.int .u8) 5 w' w.heap.size (fun k_ => some k_ ≠ (v1_ : Value).ownBlock) v0_ r1 ∧ Kd.R (Kd.int .u8) 5 w' w.heap.size (fun k_ => some k_ ≠ (v0_ : Value).ownBlock) v1_ r2 ∧ Kd.S k55 55 w' w.heap.size (fun k_ => some k_ ≠ (v0_ : Value).ownBlock ∧ some k_ ≠ (v1_ : Value).ownBlock) v5_ r6 ∧ Below w.heap.size w w' := by
 have hu33 := Try.underlying33
 have hu55 := Try.underlying55
 have bt := aM bJ
 have bs := aM bH
 clear bJ bH
 have bv := aM bK
 have bx := aM bL
 clear bK bL
 have bm := aM bM
 have bu := aM bG
 clear bM bG
 have HB := aM (Below.refl w.heap.size w)
 have H := h
 clear h
 unfold spec_Fall.f at H
 replace H := bE H
 obtain ⟨⟨av, ax, aG, aI, aK, aX⟩, A3, H⟩ := H
 dsimp only at H
 replace H := bE H
 obtain ⟨t824, A4, H⟩ := H
 go_enter Try.func49, Try.ntmps49
 go_wp2_with (first | ((with_reducible refine gate_dst (N := 2) rfl ?_); refine gBx 2 #[.slice az aq.length aA, .slice aE ap.length aB, .int .i64 au, .int .i64 aw, .int .i64 ar, .slice aF ab.length ay] 33 ?_; intro ao hg w6 hbox hb; have ac := aM (hbox); have GW809 := aM ((by rw [hg]; exact (below_size TB) : w.heap.size ≤ ao)); have GE809 := aM ((by rw [hg]; exact (below_size TB) : w.heap.size ≤ ao)); replace HB := aM (below_step TB hb); clear hb hbox hg) | ((with_reducible refine gate_dst (N := 4) rfl ?_); refine gBx 4 #[.slice none 0 0, .slice none 0 0, .int .i64 0, .int .i64 0, .int .i64 0, .slice none 0 0] 33 ?_; intro gb810 hg w7 hbox hb; have an := aM (hbox); have GW810 := aM ((by rw [hg]; exact (below_size TB) : w.heap.size ≤ gb810)); have GE810 := aM ((by rw [hg]; exact (below_size TB) : w.heap.size ≤ gb810)); have NB809_810 := aM ((by rw [hg]; exact Nat.ne_of_lt (blk_lt (g := ao) (o := .cells #[.slice az aq.length aA, .slice aE ap.length aB, .int .i64 au, .int .i64 aw, .int .i64 ar, .slice aF ab.length ay] 33 (0, 0)) TK) : ao ≠ gb810)); have NB810_809 := aM ((by rw [hg]; exact Nat.ne_of_gt (blk_lt (g := ao) (o := .cells #[.slice az aq.length aA, .slice aE ap.length aB, .int .i64 au, .int .i64 aw, .int .i64 ar, .slice aF ab.length ay] 33 (0, 0)) TK) : gb810 ≠ ao)); replace ac := aM (blk_below (g := ao) (o := .cells #[.slice az aq.length aA, .slice aE ap.length aB, .int .i64 au, .int .i64 aw, .int .i64 ar, .slice aF ab.length ay] 33 (0, 0)) TK hb); replace HB := aM (below_step TB hb); clear hb hbox hg; have hnb8 := NB809_810.out; have hnc8 := NB810_809.out; obtain ⟨ck, cj, cm, cl, cq, cg⟩ := cz6 ac.out; obtain ⟨co, ci, cn, cp, cf, ch⟩ := fz6 ac.out) | ((with_reducible refine gate_callee (f := 76) rfl ?_); refine gL (some 8) Try.func76 #[.agg #[.slice az aq.length aA, .slice aE ap.length aB, .int .i64 au, .int .i64 aw, .int .i64 ar, .slice aF ab.length ay]] ?_; (with_reducible refine (spec_l9Copy.calls k _ _ aq _ _ ap au aw ar _ _ ab av ax aG aI aK aX _ ?side1 ?side2 ?side3 ?side4 ?side5 ?side6 A3.out).mono ?_); (case side1 => have X_ := (Kd.C_below bt.out HB.out); exact TC); (case side2 => exact bs.out); (case side3 => have X_ := (Kd.C_below bv.out HB.out); exact TC); (case side4 => exact bx.out); (case side5 => have X_ := (Kd.C_below bm.out HB.out); exact TC); (case side6 => exact bu.out); rintro e w10 ⟨v812, v815, v821, rfl, ho0, ho1, ho2, hb⟩; refine ⟨_, rfl, ?_⟩; have HO813 := aM (Kd.R_lower ho0 (below_size TB)); have HO816 := aM (Kd.R_lower ho1 (below_size TB)); have HO822 := aM (Kd.S_lower ho2 (below_size TB)); replace ac := aM (blk_below (g := ao) (o := .cells #[.slice az aq.length aA, .slice aE ap.length aB, .int .i64 au, .int .i64 aw, .int .i64 ar, .slice aF ab.length ay] 33 (0, 0)) TK hb); replace an := aM (blk_below (g := gb810) (o := .cells #[.slice none 0 0, .slice none 0 0, .int .i64 0, .int .i64 0, .int .i64 0, .slice none 0 0] 33 (0, 0)) TK hb); replace HB := aM (below_step TB hb); clear ho0 ho1 ho2 hb) | ((with_reducible refine gate_dst (N := 5) rfl ?_); refine gBx 5 #[.slice none 0 0, .slice none 0 0, .int .i64 0, .int .i64 0, .int .i64 0, .slice none 0 0] 33 ?_; intro gb823 hg w11 hbox hb; have aa := aM (hbox); have GW823 := aM ((by rw [hg]; exact (below_size TB) : w.heap.size ≤ gb823)); have GE823 := aM ((by rw [hg]; exact (below_size TB) : w.heap.size ≤ gb823)); have NB809_823 := aM ((by rw [hg]; exact Nat.ne_of_lt (blk_lt (g := ao) (o := .cells #[.slice az aq.length aA, .slice aE ap.length aB, .int .i64 au, .int .i64 aw, .int .i64 ar, .slice aF ab.length ay] 33 (0, 0)) TK) : ao ≠ gb823)); have NB823_809 := aM ((by rw [hg]; exact Nat.ne_of_gt (blk_lt (g := ao) (o := .cells #[.slice az aq.length aA, .slice aE ap.length aB, .int .i64 au, .int .i64 aw, .int .i64 ar, .slice aF ab.length ay] 33 (0, 0)) TK) : gb823 ≠ ao)); have NB810_823 := aM ((by rw [hg]; exact Nat.ne_of_lt (blk_lt (g := gb810) (o := .cells #[.slice none 0 0, .slice none 0 0, .int .i64 0, .int .i64 0, .int .i64 0, .slice none 0 0] 33 (0, 0)) TK) : gb810 ≠ gb823)); have NB823_810 := aM ((by rw [hg]; exact Nat.ne_of_gt (blk_lt (g := gb810) (o := .cells #[.slice none 0 0, .slice none 0 0, .int .i64 0, .int .i64 0, .int .i64 0, .slice none 0 0] 33 (0, 0)) TK) : gb823 ≠ gb810)); replace HO813 := aM (Kd.R_below (by have X_ := HO813.out; exact TR) hb); replace HO816 := aM (Kd.R_below (by have X_ := HO816.out; exact TR) hb); replace HO822 := aM (Kd.S_below (by have X_ := HO822.out; exact TS) hb); replace ac := aM (blk_below (g := ao) (o := .cells #[.slice az aq.length aA, .slice aE ap.length aB, .int .i64 au, .int .i64 aw, .int .i64 ar, .slice aF ab.length ay] 33 (0, 0)) TK hb); replace an := aM (blk_below (g := gb810) (o := .cells #[.slice none 0 0, .slice none 0 0, .int .i64 0, .int .i64 0, .int .i64 0, .slice none 0 0] 33 (0, 0)) TK hb); replace HB := aM (below_step TB hb); clear hb hbox hg; obtain ⟨Ao12, co12, eo12⟩ := Kd.R_slice HO813.out; subst eo12; have hnb13 := NB823_809.out; have hnc13 := NB809_823.out; have hnb14 := NB823_810.out; have hnc14 := NB810_823.out; obtain ⟨b4, bR, bS, bX, bY, b6⟩ := cz6 aa.out; obtain ⟨b1, bT, cc, bQ, cb, b9⟩ := fz6 aa.out; obtain ⟨Ao16, co16, eo16⟩ := Kd.R_slice HO816.out; subst eo16; obtain ⟨Ao17, co17, eo17⟩ := Kd.S_slice HO822.out; subst eo17; obtain ⟨b8, ca, bW, b5, b2, cd⟩ := cz6 ac.out; obtain ⟨bZ, b0, bU, b7, bV, b3⟩ := fz6 ac.out) | ((with_reducible refine gate_callee (f := 27) rfl ?_); (with_reducible refine gate_dst (N := 10) rfl ?_); generalize hG_ : wpList _ _ _ _ _ _ = G_))
 subst hG_
 by_cases c19 : t824 = true
 ·subst c19
  replace H := ifT H
  have H' := aM H
  clear H
  go_wp2_with (first | ((with_reducible refine gate_callee (f := 27) rfl ?_); refine gL (some 10) Try.func27 #[.agg #[.slice az aq.length aA, .slice aE ap.length aB, .int .i64 au, .int .i64 aw, .int .i64 ar, .slice aF ab.length ay]] ?_; (with_reducible refine (spec_DiskOk.calls k _ _ aq _ _ ap au aw ar _ _ ab true _ ?side1 ?side2 ?side3 ?side4 ?side5 ?side6 A4.out).mono ?_); (case side1 => exact Kd.C_below bt.out TB); (case side2 => exact bs.out); (case side3 => exact Kd.C_below bv.out TB); (case side4 => exact bx.out); (case side5 => exact Kd.C_below bm.out TB); (case side6 => exact bu.out); rintro e w20 ⟨rfl, hb⟩; refine ⟨_, rfl, ?_⟩; replace HO813 := aM (Kd.R_below (by (with_reducible repeat (first | apply Kd.R_alloc | apply Kd.R_drewN | apply Kd.R_drew)); exact (R_off (Kd.R_types HO813.out aa.out (by decide)) TO)) hb); replace HO816 := aM (Kd.R_below (by (with_reducible repeat (first | apply Kd.R_alloc | apply Kd.R_drewN | apply Kd.R_drew)); exact (R_off (Kd.R_types HO816.out aa.out (by decide)) TO)) hb); replace HO822 := aM (Kd.S_below (by (with_reducible repeat (first | apply Kd.S_alloc | apply Kd.S_drewN | apply Kd.S_drew)); exact (S_off (Kd.S_types HO822.out aa.out (by decide)) TO)) hb); replace ac := aM (blk_below (g := ao) (o := .cells #[.slice az aq.length aA, .slice aE ap.length aB, .int .i64 au, .int .i64 aw, .int .i64 ar, .slice aF ab.length ay] 33 (0, 0)) (by (with_reducible repeat (first | refine blk_drewN ?_ _ | refine blk_drew ?_ | refine blk_alloc ?_ _)); refine blk_far ?_ NB809_823.out _; (with_reducible repeat (first | refine blk_drewN ?_ _ | refine blk_drew ?_ | refine blk_alloc ?_ _)); refine blk_far ?_ NB809_823.out _; (with_reducible repeat (first | refine blk_drewN ?_ _ | refine blk_drew ?_ | refine blk_alloc ?_ _)); refine blk_far ?_ NB809_823.out _; (with_reducible repeat (first | refine blk_drewN ?_ _ | refine blk_drew ?_ | refine blk_alloc ?_ _)); refine blk_far ?_ NB809_823.out _; (with_reducible repeat (first | refine blk_drewN ?_ _ | refine blk_drew ?_ | refine blk_alloc ?_ _)); refine blk_far ?_ NB809_823.out _; (with_reducible repeat (first | refine blk_drewN ?_ _ | refine blk_drew ?_ | refine blk_alloc ?_ _)); refine blk_far ?_ NB809_823.out _; (with_reducible repeat (first | refine blk_drewN ?_ _ | refine blk_drew ?_ | refine blk_alloc ?_ _)); exact ac.out) hb); replace an := aM (blk_below (g := gb810) (o := .cells #[.slice none 0 0, .slice none 0 0, .int .i64 0, .int .i64 0, .int .i64 0, .slice none 0 0] 33 (0, 0)) (by (with_reducible repeat (first | refine blk_drewN ?_ _ | refine blk_drew ?_ | refine blk_alloc ?_ _)); refine blk_far ?_ NB810_823.out _; (with_reducible repeat (first | refine blk_drewN ?_ _ | refine blk_drew ?_ | refine blk_alloc ?_ _)); refine blk_far ?_ NB810_823.out _; (with_reducible repeat (first | refine blk_drewN ?_ _ | refine blk_drew ?_ | refine blk_alloc ?_ _)); refine blk_far ?_ NB810_823.out _; (with_reducible repeat (first | refine blk_drewN ?_ _ | refine blk_drew ?_ | refine blk_alloc ?_ _)); refine blk_far ?_ NB810_823.out _; (with_reducible repeat (first | refine blk_drewN ?_ _ | refine blk_drew ?_ | refine blk_alloc ?_ _)); refine blk_far ?_ NB810_823.out _; (with_reducible repeat (first | refine blk_drewN ?_ _ | refine blk_drew ?_ | refine blk_alloc ?_ _)); refine blk_far ?_ NB810_823.out _; (with_reducible repeat (first | refine blk_drewN ?_ _ | refine blk_drew ?_ | refine blk_alloc ?_ _)); exact an.out) hb); replace aa := aM (blk_below (g := gb823) (o := .cells #[.slice Ao12 av.length co12, .slice Ao16 ax.length co16, .int .i64 aG, .int .i64 aI, .int .i64 aK, .slice Ao17 aX.length co17] 33 (0, 0)) (by (with_reducible repeat (first | refine blk_drewN ?_ _ | refine blk_drew ?_ | refine blk_alloc ?_ _)); refine blk_put (cs := #[.slice Ao12 av.length co12, .slice Ao16 ax.length co16, .int .i64 aG, .int .i64 aI, .int .i64 aK, .slice none 0 0]) ?_ 5 _ rfl; (with_reducible repeat (first | refine blk_drewN ?_ _ | refine blk_drew ?_ | refine blk_alloc ?_ _)); refine blk_put (cs := #[.slice Ao12 av.length co12, .slice Ao16 ax.length co16, .int .i64 aG, .int .i64 aI, .int .i64 0, .slice none 0 0]) ?_ 4 _ rfl; (with_reducible repeat (first | refine blk_drewN ?_ _ | refine blk_drew ?_ | refine blk_alloc ?_ _)); refine blk_put (cs := #[.slice Ao12 av.length co12, .slice Ao16 ax.length co16, .int .i64 aG, .int .i64 0, .int .i64 0, .slice none 0 0]) ?_ 3 _ rfl; (with_reducible repeat (first | refine blk_drewN ?_ _ | refine blk_drew ?_ | refine blk_alloc ?_ _)); refine blk_put (cs := #[.slice Ao12 av.length co12, .slice Ao16 ax.length co16, .int .i64 0, .int .i64 0, .int .i64 0, .slice none 0 0]) ?_ 2 _ rfl; (with_reducible repeat (first | refine blk_drewN ?_ _ | refine blk_drew ?_ | refine blk_alloc ?_ _)); refine blk_put (cs := #[.slice Ao12 av.length co12, .slice none 0 0, .int .i64 0, .int .i64 0, .int .i64 0, .slice none 0 0]) ?_ 1 _ rfl; (with_reducible repeat (first | refine blk_drewN ?_ _ | refine blk_drew ?_ | refine blk_alloc ?_ _)); refine blk_put (cs := #[.slice none 0 0, .slice none 0 0, .int .i64 0, .int .i64 0, .int .i64 0, .slice none 0 0]) ?_ 0 _ rfl; (with_reducible repeat (first | refine blk_drewN ?_ _ | refine blk_drew ?_ | refine blk_alloc ?_ _)); exact aa.out) hb); replace HB := aM (below_step TB hb); clear hb))
  go_loopg [6] k (fun kq v6 w' => ∃ (ak : Int) (ai : List Int) (aj : List Int) (ag : Int) (af : Int) (ah : Int) (am : List (S55)) (aC : Value) (aD : Value) (aJ : Value), v6 = .int .i64 ak ∧ Aside0 (spec_Fall.l0 kq a1 ak aq ap au aw ar ab ai aj ag af ah am = some (r1, r2, r3, r4, r5, r6)) ∧ Aside0 (kq ≤ k) ∧ Aside0 (Kd.R (Kd.int .u8) 5 w' w.heap.size (fun k_ => some k_ ≠ (aD : Value).ownBlock) aC ai) ∧ Aside0 (Kd.R (Kd.int .u8) 5 w' w.heap.size (fun k_ => some k_ ≠ (aC : Value).ownBlock) aD aj) ∧ Aside0 (Kd.S k55 55 w' w.heap.size (fun k_ => some k_ ≠ (aC : Value).ownBlock ∧ some k_ ≠ (aD : Value).ownBlock) aJ am) ∧ Aside0 (w'.heap[ao]? = some (.cells #[(.slice az aq.length aA), (.slice aE ap.length aB), .int .i64 au, .int .i64 aw, .int .i64 ar, (.slice aF ab.length ay)] 33 (0, 0))) ∧ Aside0 (w'.heap[gb810]? = some (.cells #[(.slice none 0 0), (.slice none 0 0), .int .i64 0, .int .i64 0, .int .i64 0, (.slice none 0 0)] 33 (0, 0))) ∧ Aside0 (w'.heap[gb823]? = some (.cells #[aC, aD, .int .i64 ag, .int .i64 af, .int .i64 ah, aJ] 33 (0, 0))) ∧ Aside0 (Below w.heap.size w w'))
  case atStart => exact ⟨(0), (av), (ax), (aG), (aI), (aK), (aX), (.slice Ao12 av.length co12), (.slice Ao16 ax.length co16), (.slice Ao17 aX.length co17), (by first | rfl | (simp; done) | (simp [*]; done)), H', ⟨Nat.le_refl _⟩, ⟨by have X_ := HO813.out; exact TR⟩, ⟨by have X_ := HO816.out; exact TR⟩, ⟨by have X_ := HO822.out; exact TS⟩, ⟨TK⟩, ⟨TK⟩, ⟨TK⟩, ⟨TB⟩⟩
  case round =>
   clear H'
   try clear c1
   try clear c2
   try clear p2
   try clear c4
   try clear c7
   try clear c8
   try clear c13
   try clear c14
   try clear c19
   try clear b4
   try clear bR
   try clear bS
   try clear bX
   try clear bY
   try clear b6
   try clear b8
   try clear ca
   try clear bW
   try clear b5
   try clear b2
   try clear cd
   try clear ck
   try clear cj
   try clear cm
   try clear cl
   try clear cq
   try clear cg
   try clear b1
   try clear bT
   try clear cc
   try clear bQ
   try clear cb
   try clear b9
   try clear bZ
   try clear b0
   try clear bU
   try clear b7
   try clear bV
   try clear b3
   try clear co
   try clear ci
   try clear cn
   try clear cp
   try clear cf
   try clear ch
   obtain ⟨ak, ai, aj, ag, af, ah, am, aC, aD, aJ, rfl, HA, HK1, ad, ae, al, ac, an, aa, HB⟩ := hrel
   cases gk with
   | zero => exact absurd HA.out (by simp [spec_Fall.l0])
   | succ k1 =>
    have H := HA.out
    clear HA
    simp only [spec_Fall.l0] at H
    by_cases c21 : ak < (ab.length : Int)
    ·rw [if_pos c21] at H
     have c21b0 : decide (ak < (ab.length : Int)) = true := decide_eq_true c21
     clear c21
     replace H := bE H
     obtain ⟨t828, A22, H⟩ := H
     by_cases c23 : t828 = true
     ·subst c23
      replace H := ifT H
      replace H := ifN H
      obtain ⟨c24, H⟩ := H
      have c24b0 : decide (0 ≤ ak) = true := decide_eq_true c24
      clear c24
      replace H := bE H
      obtain ⟨⟨aL, aN, aZ, bf, bk, bj⟩, A25, H⟩ := H
      dsimp only at H
      have H' := aM H
      clear H
      have hnb26 := NB809_810.out
      have hnc26 := NB810_809.out
      have hnb27 := NB809_823.out
      have hnc27 := NB823_809.out
      obtain ⟨hcz28_0, hcz28_1, hcz28_2, hcz28_3, hcz28_4, hcz28_5⟩ := cz6 ac.out
      obtain ⟨hfz28_0, hfz28_1, hfz28_2, hfz28_3, hfz28_4, hfz28_5⟩ := fz6 ac.out
      try go_wp2_with (first | ((with_reducible refine gate_callee (f := 85) rfl ?_); refine gL (some 22) Try.func85 #[.int .i64 a1, .int .i64 ak] ?_; (with_reducible refine (spec_InSet.calls a1 ak true _ A22.out).mono ?_); rintro e w' ⟨rfl, ⟨nd, rfl⟩⟩; refine ⟨_, rfl, ?_⟩; (try (rw [drewN_self wr]; generalize hq_ : World.drewN wr _ = wr; have n0_ : Aside0 (Kd.R (Kd.int .u8) 5 wr w.heap.size (fun k_ => some k_ ≠ (aD : Value).ownBlock) aC ai) := ⟨by rw [← hq_]; exact (by have X_ := ad.out; exact TR)⟩; have n1_ : Aside0 (Kd.R (Kd.int .u8) 5 wr w.heap.size (fun k_ => some k_ ≠ (aC : Value).ownBlock) aD aj) := ⟨by rw [← hq_]; exact (by have X_ := ae.out; exact TR)⟩; have n2_ : Aside0 (Kd.S k55 55 wr w.heap.size (fun k_ => (some k_ ≠ (aC : Value).ownBlock ∧ some k_ ≠ (aD : Value).ownBlock)) aJ am) := ⟨by rw [← hq_]; exact (by have X_ := al.out; exact TS)⟩; have n3_ : Aside0 (wr.heap[ao]? = some (.cells #[.slice az aq.length aA, .slice aE ap.length aB, .int .i64 au, .int .i64 aw, .int .i64 ar, .slice aF ab.length ay] 33 (0, 0))) := ⟨by rw [← hq_]; exact TK⟩; have n4_ : Aside0 (wr.heap[gb810]? = some (.cells #[.slice none 0 0, .slice none 0 0, .int .i64 0, .int .i64 0, .int .i64 0, .slice none 0 0] 33 (0, 0))) := ⟨by rw [← hq_]; exact TK⟩; have n5_ : Aside0 (wr.heap[gb823]? = some (.cells #[aC, aD, .int .i64 ag, .int .i64 af, .int .i64 ah, aJ] 33 (0, 0))) := ⟨by rw [← hq_]; exact TK⟩; have n6_ : Aside0 (Below w.heap.size w wr) := ⟨by rw [← hq_]; exact TB⟩; clear ad ae al ac an aa HB hq_; have ad := n0_; have ae := n1_; have al := n2_; have ac := n3_; have an := n4_; have aa := n5_; have HB := n6_; clear n0_ n1_ n2_ n3_ n4_ n5_ n6_))))
      replace ad := aM (Kd.R_drew ad.out)
      replace ae := aM (Kd.R_drew ae.out)
      replace al := aM (Kd.S_drew al.out)
      replace ac := aM (blk_drew ac.out)
      replace an := aM (blk_drew an.out)
      replace aa := aM (blk_drew aa.out)
      replace HB := aM (below_drew1 HB.out)
      have bF : 0 ≤ (ak : Int) := DT
      have bD : ak < (ab.length : Int) := DT
      obtain ⟨aH, bB, bC, e829, aT, aR, aU, aQ, aV, aS, br, bp⟩ := at_T55 bm.out ak bF bD
      have be := aS
      have bc := aV
      have a9 := aQ
      have bd := aU
      have bb := aR
      have ba := aT
      cases e829
      replace aT := (HB.out.cell (World.block_lt_of_cell? w _ aT)).trans aT
      replace aR := (HB.out.cell (World.block_lt_of_cell? w _ aR)).trans aR
      replace aU := (HB.out.cell (World.block_lt_of_cell? w _ aU)).trans aU
      replace aQ := (HB.out.cell (World.block_lt_of_cell? w _ aQ)).trans aQ
      replace aV := (HB.out.cell (World.block_lt_of_cell? w _ aV)).trans aV
      replace aS := (HB.out.cell (World.block_lt_of_cell? w _ aS)).trans aS
      have bq := aM bp
      have ce := aM br
      clear bp br
      replace bF := eq_true bF
      replace bD := eq_true bD
      obtain ⟨bo, bn, eo30⟩ := Kd.R_slice ad.out
      (first | subst eo30 | (injection eo30 with f1_ f2_ f3_; have f4_ := f1_.symm; have f5_ := f3_.symm; clear f1_ f2_ f3_; subst f4_; subst f5_))
      obtain ⟨bi, bh, eo31⟩ := Kd.R_slice ae.out
      (first | subst eo31 | (injection eo31 with f1_ f2_ f3_; have f4_ := f1_.symm; have f5_ := f3_.symm; clear f1_ f2_ f3_; subst f4_; subst f5_))
      obtain ⟨aP, aO, eo32⟩ := Kd.S_slice al.out
      (first | subst eo32 | (injection eo32 with f1_ f2_ f3_; have f4_ := f1_.symm; have f5_ := f3_.symm; clear f1_ f2_ f3_; subst f4_; subst f5_))
      refine start_ (n := 8) (S := fun w' => w'.cell? ⟨gb823, 0, none⟩ = some (.slice bo ai.length bn) ∧ w'.cell? ⟨gb823, 1, none⟩ = some (.slice bi aj.length bh) ∧ w'.cell? ⟨gb823, 2, none⟩ = some (.int .i64 ag) ∧ w'.cell? ⟨gb823, 3, none⟩ = some (.int .i64 af) ∧ w'.cell? ⟨gb823, 4, none⟩ = some (.int .i64 ah) ∧ w'.cell? ⟨gb823, 5, none⟩ = some (.slice aP am.length aO) ∧ w'.cell? ⟨ao, 0, none⟩ = some (.slice az aq.length aA) ∧ w'.cell? ⟨ao, 1, none⟩ = some (.slice aE ap.length aB) ∧ w'.cell? ⟨ao, 2, none⟩ = some (.int .i64 au) ∧ w'.cell? ⟨ao, 3, none⟩ = some (.int .i64 aw) ∧ w'.cell? ⟨ao, 4, none⟩ = some (.int .i64 ar) ∧ w'.cell? ⟨ao, 5, none⟩ = some (.slice (some aH) ab.length ay) ∧ w'.cell? (aH.add ((ak).toNat * 6)) = some (.int .i64 ((rd_T55 ab ak).f0)) ∧ w'.cell? ⟨(aH.add ((ak).toNat * 6)).block, (aH.add ((ak).toNat * 6)).off + 1, none⟩ = some (.int .i64 ((rd_T55 ab ak).f1)) ∧ w'.cell? ⟨(aH.add ((ak).toNat * 6)).block, (aH.add ((ak).toNat * 6)).off + 2, none⟩ = some (.slice bB ((rd_T55 ab ak).f2).length bC) ∧ w'.cell? ⟨(aH.add ((ak).toNat * 6)).block, (aH.add ((ak).toNat * 6)).off + 3, none⟩ = some (.int .i64 ((rd_T55 ab ak).f3.f0)) ∧ w'.cell? ⟨(aH.add ((ak).toNat * 6)).block, (aH.add ((ak).toNat * 6)).off + 4, none⟩ = some (.int .i64 ((rd_T55 ab ak).f3.f1)) ∧ w'.cell? ⟨(aH.add ((ak).toNat * 6)).block, (aH.add ((ak).toNat * 6)).off + 5, none⟩ = some (.int .i64 ((rd_T55 ab ak).f3.f2))) (ds := [7]) (Array.replicate 8 false) (by kernel_rfl) rfl rfl ⟨(blk_cell aa.out 0).trans rfl, (blk_cell aa.out 1).trans rfl, (blk_cell aa.out 2).trans rfl, (blk_cell aa.out 3).trans rfl, (blk_cell aa.out 4).trans rfl, (blk_cell aa.out 5).trans rfl, (blk_cell ac.out 0).trans rfl, (blk_cell ac.out 1).trans rfl, (blk_cell ac.out 2).trans rfl, (blk_cell ac.out 3).trans rfl, (blk_cell ac.out 4).trans rfl, (blk_cell ac.out 5).trans rfl, ((HB.out.cell (World.block_lt_of_cell? w _ ba)).trans ba), ((HB.out.cell (World.block_lt_of_cell? w _ bb)).trans bb), ((HB.out.cell (World.block_lt_of_cell? w _ bd)).trans bd), ((HB.out.cell (World.block_lt_of_cell? w _ a9)).trans a9), ((HB.out.cell (World.block_lt_of_cell? w _ bc)).trans bc), ((HB.out.cell (World.block_lt_of_cell? w _ be)).trans be)⟩ (fun hHeld => ?_); refine with_tabW spec_Fall.tab8 spec_Fall.bits8 (fun HT_ HW_ => ?_)
      generalize wr.drew = w29 at ad ae al ac an aa HB bq aT aR aU aQ aV aS hHeld ⊢
      refine pP 1 (some 24) ?_
      refine pP 3 (some 26) ?_
      refine pT 0 (some 23) ?_
      refine pT 2 (some 25) ?_
      refine pP 4 (some 27) ?_
      refine pT 5 (some 28) ?_
      refine pO 6 (some 29) (fun K hK => ?_)
      refine gG Try.func37 #[.agg #[.slice bo ai.length bn, .slice bi aj.length bh, .int .i64 ag, .int .i64 af, .int .i64 ah, .slice aP am.length aO], .agg #[.int .i64 ((rd_T55 ab ak).f0), .int .i64 ((rd_T55 ab ak).f1), .slice bB ((rd_T55 ab ak).f2).length bC, .int .i64 ((rd_T55 ab ak).f3.f0), .int .i64 ((rd_T55 ab ak).f3.f1), .int .i64 ((rd_T55 ab ak).f3.f2)]] ?_
      with_reducible refine (spec_OnePut.calls k1 _ _ ai _ _ aj ag af ah _ _ am ((rd_T55 ab ak).f0) ((rd_T55 ab ak).f1) _ _ ((rd_T55 ab ak).f2) ((rd_T55 ab ak).f3.f0) ((rd_T55 ab ak).f3.f1) ((rd_T55 ab ak).f3.f2) aL aN aZ bf bk bj _ ?side1 ?side2 ?side3 ?side4 ?side5 ?side6 ?side7 ?side8 A25.out).mono ?_
      (case side1 => have X_ := (Kd.R_reads' ad.out).2.2; exact TC)
      (case side2 => exact (Kd.R_reads' ad.out).2.1)
      (case side3 => have X_ := (Kd.R_reads' ae.out).2.2; exact TC)
      (case side4 => exact (Kd.R_reads' ae.out).2.1)
      (case side5 => have X_ := (Kd.S_reads' al.out).2.2; exact TC)
      (case side6 => exact (Kd.S_reads' al.out).2.1)
      (case side7 => have X_ := (Kd.C_below bq.out HB.out); exact TC)
      (case side8 => exact ce.out)
      rintro e w33 ⟨v831, v834, v840, rfl, ho0, ho1, ho2, hb⟩
      refine ⟨_, rfl, ?_⟩
      have n0_ := aM (Kd.R_mono (Kd.R_told (Kd.R_told (Kd.R_old (by have X_ := ad.out; exact TR) hb) (Kd.R_base ho0)) (Kd.R_base ho1)) (fun _ h_ => h_.1))
      have n1_ := aM (Kd.R_mono (Kd.R_told (Kd.R_told (Kd.R_old (by have X_ := ae.out; exact TR) hb) (Kd.R_base ho0)) (Kd.R_base ho1)) (fun _ h_ => h_.1))
      have n2_ := aM (Kd.S_mono (Kd.S_told (Kd.S_told (Kd.S_told (Kd.S_old (by have X_ := al.out; exact TS) hb) (Kd.R_base ho0)) (Kd.R_base ho1)) (Kd.S_base ho2)) (fun _ h_ => h_.1))
      have n3_ := aM (Kd.R_lower (Kd.R_new' (Kd.R_new' ho0 (Kd.R_lt (by have X_ := ad.out; exact TR))) (Kd.R_lt (by have X_ := ae.out; exact TR))) (below_size TB))
      have n4_ := aM (Kd.R_lower (Kd.R_new' (Kd.R_new' ho1 (Kd.R_lt (by have X_ := ad.out; exact TR))) (Kd.R_lt (by have X_ := ae.out; exact TR))) (below_size TB))
      have n5_ := aM (Kd.S_lower (Kd.S_new' (Kd.S_new' (Kd.S_new' ho2 (Kd.R_lt (by have X_ := ad.out; exact TR))) (Kd.R_lt (by have X_ := ae.out; exact TR))) (Kd.S_lt (by have X_ := al.out; exact TS))) (below_size TB))
      have n6_ := aM (blk_below (g := ao) (o := .cells #[.slice az aq.length aA, .slice aE ap.length aB, .int .i64 au, .int .i64 aw, .int .i64 ar, .slice (some aH) ab.length ay] 33 (0, 0)) TK hb)
      have n7_ := aM (blk_below (g := gb810) (o := .cells #[.slice none 0 0, .slice none 0 0, .int .i64 0, .int .i64 0, .int .i64 0, .slice none 0 0] 33 (0, 0)) TK hb)
      have n8_ := aM (blk_below (g := gb823) (o := .cells #[.slice bo ai.length bn, .slice bi aj.length bh, .int .i64 ag, .int .i64 af, .int .i64 ah, .slice aP am.length aO] 33 (0, 0)) TK hb)
      have n9_ := aM (below_step TB hb)
      clear ad
      clear ae
      clear al
      clear ac
      clear an
      clear aa
      clear HB
      have ad := n0_
      have ae := n1_
      have al := n2_
      have bN := n3_
      have bP := n4_
      have bO := n5_
      have ac := n6_
      have an := n7_
      have aa := n8_
      have HB := n9_
      clear n0_ n1_ n2_ n3_ n4_ n5_ n6_ n7_ n8_ n9_
      (try clear hb)
      (try clear hb2)
      (try clear hk)
      (try clear hi)
      (try clear ho0)
      (try clear ho1)
      (try clear ho2)
      obtain ⟨aY, aW, eo34⟩ := Kd.R_slice bN.out
      (first | subst eo34 | (injection eo34 with f1_ f2_ f3_; have f4_ := f1_.symm; have f5_ := f3_.symm; clear f1_ f2_ f3_; subst f4_; subst f5_))
      obtain ⟨a8, a7, eo36⟩ := Kd.R_slice bP.out
      (first | subst eo36 | (injection eo36 with f1_ f2_ f3_; have f4_ := f1_.symm; have f5_ := f3_.symm; clear f1_ f2_ f3_; subst f4_; subst f5_))
      obtain ⟨bA, bw, eo41⟩ := Kd.S_slice bO.out
      (first | subst eo41 | (injection eo41 with f1_ f2_ f3_; have f4_ := f1_.symm; have f5_ := f3_.symm; clear f1_ f2_ f3_; subst f4_; subst f5_))
      refine hK.out _ _ ⟨(blk_cell aa.out 0).trans rfl, (blk_cell aa.out 1).trans rfl, (blk_cell aa.out 2).trans rfl, (blk_cell aa.out 3).trans rfl, (blk_cell aa.out 4).trans rfl, (blk_cell aa.out 5).trans rfl, (blk_cell ac.out 0).trans rfl, (blk_cell ac.out 1).trans rfl, (blk_cell ac.out 2).trans rfl, (blk_cell ac.out 3).trans rfl, (blk_cell ac.out 4).trans rfl, (blk_cell ac.out 5).trans rfl, ((HB.out.cell (World.block_lt_of_cell? w _ ba)).trans ba), ((HB.out.cell (World.block_lt_of_cell? w _ bb)).trans bb), ((HB.out.cell (World.block_lt_of_cell? w _ bd)).trans bd), ((HB.out.cell (World.block_lt_of_cell? w _ a9)).trans a9), ((HB.out.cell (World.block_lt_of_cell? w _ bc)).trans bc), ((HB.out.cell (World.block_lt_of_cell? w _ be)).trans be)⟩ (fun hHeld => ?_)
      clear hK K
      refine nR ?_
      refine pL 7 none (fun K hK => ?_)
      have hs35 : w33.cell? ⟨gb823, 0, none⟩ = some (.slice bo ai.length bn) := (blk_cell aa.out 0).trans rfl
      have hfs35 := blk_frozen aa.out 0
      have hns35_0 := NB809_823.out
      have hns35_1 := NB810_823.out
      have hms35_0 := NB823_809.out
      have hms35_1 := NB823_810.out
      have hs37 : w33.cell? ⟨gb823, 1, none⟩ = some (.slice bi aj.length bh) := (blk_cell aa.out 1).trans rfl
      have hfs37 := blk_frozen aa.out 1
      have hns37_0 := NB809_823.out
      have hns37_1 := NB810_823.out
      have hms37_0 := NB823_809.out
      have hms37_1 := NB823_810.out
      have hs38 : w33.cell? ⟨gb823, 2, none⟩ = some (.int .i64 ag) := (blk_cell aa.out 2).trans rfl
      have hfs38 := blk_frozen aa.out 2
      have hns38_0 := NB809_823.out
      have hns38_1 := NB810_823.out
      have hms38_0 := NB823_809.out
      have hms38_1 := NB823_810.out
      have hs39 : w33.cell? ⟨gb823, 3, none⟩ = some (.int .i64 af) := (blk_cell aa.out 3).trans rfl
      have hfs39 := blk_frozen aa.out 3
      have hns39_0 := NB809_823.out
      have hns39_1 := NB810_823.out
      have hms39_0 := NB823_809.out
      have hms39_1 := NB823_810.out
      have hs40 : w33.cell? ⟨gb823, 4, none⟩ = some (.int .i64 ah) := (blk_cell aa.out 4).trans rfl
      have hfs40 := blk_frozen aa.out 4
      have hns40_0 := NB809_823.out
      have hns40_1 := NB810_823.out
      have hms40_0 := NB823_809.out
      have hms40_1 := NB823_810.out
      have hs42 : w33.cell? ⟨gb823, 5, none⟩ = some (.slice aP am.length aO) := (blk_cell aa.out 5).trans rfl
      have hfs42 := blk_frozen aa.out 5
      have hns42_0 := NB809_823.out
      have hns42_1 := NB810_823.out
      have hms42_0 := NB823_809.out
      have hms42_1 := NB823_810.out
      refine skip_ (w1 := ?_) (by rfl) rfl ?_ ?_
      rotate_left
      ·go_simp
       rfl
      refine hK.out _ _ ?_
      clear hK K
      refine done_ (done_of HT_.out (by kernel_rfl)) ?_
      try go_wp2
      go_roundg k1
      case measure => have := HK1.out; omega
      case rel => exact ⟨(wrap64 (ak + 1)), (aL), (aN), (aZ), (bf), (bk), (bj), (.slice aY aL.length aW), (.slice a8 aN.length a7), (.slice bA bj.length bw), (by first | rfl | (simp; done) | (simp [*]; done)), H', ⟨by have := HK1.out; omega⟩, ⟨by (with_reducible repeat (first | apply Kd.R_alloc | apply Kd.R_drewN | apply Kd.R_drew)); exact Kd.R_mono (Kd.R_far (p := ⟨gb823, 5, none⟩) (Kd.R_far (p := ⟨gb823, 4, none⟩) (Kd.R_far (p := ⟨gb823, 3, none⟩) (Kd.R_far (p := ⟨gb823, 2, none⟩) (Kd.R_far (p := ⟨gb823, 1, none⟩) (Kd.R_far (p := ⟨gb823, 0, none⟩) (Kd.R_types bN.out aa.out (by decide)) (fun _ hk => hk.2) (.slice aY aL.length aW)) (fun _ hk => hk.2) (.slice a8 aN.length a7)) (fun _ hk => hk.2) (.int .i64 aZ)) (fun _ hk => hk.2) (.int .i64 bf)) (fun _ hk => hk.2) (.int .i64 bk)) (fun _ hk => hk.2) (.slice bA bj.length bw)) (fun _ hk => hk.1.1.1)⟩, ⟨by (with_reducible repeat (first | apply Kd.R_alloc | apply Kd.R_drewN | apply Kd.R_drew)); exact Kd.R_mono (Kd.R_far (p := ⟨gb823, 5, none⟩) (Kd.R_far (p := ⟨gb823, 4, none⟩) (Kd.R_far (p := ⟨gb823, 3, none⟩) (Kd.R_far (p := ⟨gb823, 2, none⟩) (Kd.R_far (p := ⟨gb823, 1, none⟩) (Kd.R_far (p := ⟨gb823, 0, none⟩) (Kd.R_types bP.out aa.out (by decide)) (fun _ hk => hk.2) (.slice aY aL.length aW)) (fun _ hk => hk.2) (.slice a8 aN.length a7)) (fun _ hk => hk.2) (.int .i64 aZ)) (fun _ hk => hk.2) (.int .i64 bf)) (fun _ hk => hk.2) (.int .i64 bk)) (fun _ hk => hk.2) (.slice bA bj.length bw)) (fun _ hk => hk.1.1.1)⟩, ⟨by (with_reducible repeat (first | apply Kd.S_alloc | apply Kd.S_drewN | apply Kd.S_drew)); exact Kd.S_mono (Kd.S_far (p := ⟨gb823, 5, none⟩) (Kd.S_far (p := ⟨gb823, 4, none⟩) (Kd.S_far (p := ⟨gb823, 3, none⟩) (Kd.S_far (p := ⟨gb823, 2, none⟩) (Kd.S_far (p := ⟨gb823, 1, none⟩) (Kd.S_far (p := ⟨gb823, 0, none⟩) (Kd.S_types bO.out aa.out (by decide)) (fun _ hk => hk.2) (.slice aY aL.length aW)) (fun _ hk => hk.2) (.slice a8 aN.length a7)) (fun _ hk => hk.2) (.int .i64 aZ)) (fun _ hk => hk.2) (.int .i64 bf)) (fun _ hk => hk.2) (.int .i64 bk)) (fun _ hk => hk.2) (.slice bA bj.length bw)) (fun _ hk => ⟨hk.1.1.1.1.1, hk.1.1.1.1.2⟩)⟩, ⟨by (with_reducible repeat (first | refine blk_drewN ?_ _ | refine blk_drew ?_ | refine blk_alloc ?_ _)); refine blk_far ?_ NB809_823.out _; (with_reducible repeat (first | refine blk_drewN ?_ _ | refine blk_drew ?_ | refine blk_alloc ?_ _)); refine blk_far ?_ NB809_823.out _; (with_reducible repeat (first | refine blk_drewN ?_ _ | refine blk_drew ?_ | refine blk_alloc ?_ _)); refine blk_far ?_ NB809_823.out _; (with_reducible repeat (first | refine blk_drewN ?_ _ | refine blk_drew ?_ | refine blk_alloc ?_ _)); refine blk_far ?_ NB809_823.out _; (with_reducible repeat (first | refine blk_drewN ?_ _ | refine blk_drew ?_ | refine blk_alloc ?_ _)); refine blk_far ?_ NB809_823.out _; (with_reducible repeat (first | refine blk_drewN ?_ _ | refine blk_drew ?_ | refine blk_alloc ?_ _)); refine blk_far ?_ NB809_823.out _; (with_reducible repeat (first | refine blk_drewN ?_ _ | refine blk_drew ?_ | refine blk_alloc ?_ _)); exact ac.out⟩, ⟨by (with_reducible repeat (first | refine blk_drewN ?_ _ | refine blk_drew ?_ | refine blk_alloc ?_ _)); refine blk_far ?_ NB810_823.out _; (with_reducible repeat (first | refine blk_drewN ?_ _ | refine blk_drew ?_ | refine blk_alloc ?_ _)); refine blk_far ?_ NB810_823.out _; (with_reducible repeat (first | refine blk_drewN ?_ _ | refine blk_drew ?_ | refine blk_alloc ?_ _)); refine blk_far ?_ NB810_823.out _; (with_reducible repeat (first | refine blk_drewN ?_ _ | refine blk_drew ?_ | refine blk_alloc ?_ _)); refine blk_far ?_ NB810_823.out _; (with_reducible repeat (first | refine blk_drewN ?_ _ | refine blk_drew ?_ | refine blk_alloc ?_ _)); refine blk_far ?_ NB810_823.out _; (with_reducible repeat (first | refine blk_drewN ?_ _ | refine blk_drew ?_ | refine blk_alloc ?_ _)); refine blk_far ?_ NB810_823.out _; (with_reducible repeat (first | refine blk_drewN ?_ _ | refine blk_drew ?_ | refine blk_alloc ?_ _)); exact an.out⟩, ⟨by (with_reducible repeat (first | refine blk_drewN ?_ _ | refine blk_drew ?_ | refine blk_alloc ?_ _)); refine blk_put (cs := #[.slice aY aL.length aW, .slice a8 aN.length a7, .int .i64 aZ, .int .i64 bf, .int .i64 bk, .slice aP am.length aO]) ?_ 5 _ rfl; (with_reducible repeat (first | refine blk_drewN ?_ _ | refine blk_drew ?_ | refine blk_alloc ?_ _)); refine blk_put (cs := #[.slice aY aL.length aW, .slice a8 aN.length a7, .int .i64 aZ, .int .i64 bf, .int .i64 ah, .slice aP am.length aO]) ?_ 4 _ rfl; (with_reducible repeat (first | refine blk_drewN ?_ _ | refine blk_drew ?_ | refine blk_alloc ?_ _)); refine blk_put (cs := #[.slice aY aL.length aW, .slice a8 aN.length a7, .int .i64 aZ, .int .i64 af, .int .i64 ah, .slice aP am.length aO]) ?_ 3 _ rfl; (with_reducible repeat (first | refine blk_drewN ?_ _ | refine blk_drew ?_ | refine blk_alloc ?_ _)); refine blk_put (cs := #[.slice aY aL.length aW, .slice a8 aN.length a7, .int .i64 ag, .int .i64 af, .int .i64 ah, .slice aP am.length aO]) ?_ 2 _ rfl; (with_reducible repeat (first | refine blk_drewN ?_ _ | refine blk_drew ?_ | refine blk_alloc ?_ _)); refine blk_put (cs := #[.slice aY aL.length aW, .slice bi aj.length bh, .int .i64 ag, .int .i64 af, .int .i64 ah, .slice aP am.length aO]) ?_ 1 _ rfl; (with_reducible repeat (first | refine blk_drewN ?_ _ | refine blk_drew ?_ | refine blk_alloc ?_ _)); refine blk_put (cs := #[.slice bo ai.length bn, .slice bi aj.length bh, .int .i64 ag, .int .i64 af, .int .i64 ah, .slice aP am.length aO]) ?_ 0 _ rfl; (with_reducible repeat (first | refine blk_drewN ?_ _ | refine blk_drew ?_ | refine blk_alloc ?_ _)); exact aa.out⟩, ⟨TB⟩⟩
     ·replace c23 := Bool.eq_false_iff.mpr c23
      subst c23
      replace H := ifF H
      have H' := aM H
      clear H
      have hnb43 := NB809_810.out
      have hnc43 := NB810_809.out
      have hnb44 := NB809_823.out
      have hnc44 := NB823_809.out
      obtain ⟨hcz45_0, hcz45_1, hcz45_2, hcz45_3, hcz45_4, hcz45_5⟩ := cz6 ac.out
      obtain ⟨hfz45_0, hfz45_1, hfz45_2, hfz45_3, hfz45_4, hfz45_5⟩ := fz6 ac.out
      go_wp2_with (first | ((with_reducible refine gate_callee (f := 85) rfl ?_); refine gL (some 22) Try.func85 #[.int .i64 a1, .int .i64 ak] ?_; (with_reducible refine (spec_InSet.calls a1 ak false _ A22.out).mono ?_); rintro e w' ⟨rfl, ⟨nd, rfl⟩⟩; refine ⟨_, rfl, ?_⟩))
      go_roundg k1
      case measure => have := HK1.out; omega
      case rel => exact ⟨(wrap64 (ak + 1)), (ai), (aj), (ag), (af), (ah), (am), (aC), (aD), (aJ), (by first | rfl | (simp; done) | (simp [*]; done)), H', ⟨by have := HK1.out; omega⟩, ⟨by have X_ := ad.out; exact TR⟩, ⟨by have X_ := ae.out; exact TR⟩, ⟨by have X_ := al.out; exact TS⟩, ⟨TK⟩, ⟨TK⟩, ⟨TK⟩, ⟨TB⟩⟩
    ·rw [if_neg c21] at H
     have c21b0 : decide (ak < (ab.length : Int)) = false := decide_eq_false c21
     clear c21
     obtain ⟨bg, bz⟩ : ∃ y_ : List (S55), y_ = (([] : List (S55))) := ⟨_, rfl⟩
     rw [← bz] at H
     have bI := aM bz
     clear bz
     simp only [Option.some.injEq, Prod.mk.injEq] at H
     obtain ⟨rfl, rfl, rfl, rfl, rfl, rfl⟩ := H
     have hnb46 := NB809_810.out
     have hnc46 := NB810_809.out
     have hnb47 := NB809_823.out
     have hnc47 := NB823_809.out
     obtain ⟨hcz48_0, hcz48_1, hcz48_2, hcz48_3, hcz48_4, hcz48_5⟩ := cz6 ac.out
     obtain ⟨hfz48_0, hfz48_1, hfz48_2, hfz48_3, hfz48_4, hfz48_5⟩ := fz6 ac.out
     go_wp2_with (first | ((with_reducible refine gate_dst (N := 30) rfl ?_); refine Kd.S_lit k55 _ 55 ?hg (N := 30) ?hd (xs := ([] : List (S55))) (inner := []) (ok := fun _ => True) (okp := fun _ => True) ?hr ?hp (fun _ hk => hk) trivial (Below.refl _ _) (Nat.le_refl _) (by simp) ?_; (case hd => rfl); (case hg => rfl); (case hr => first | (go_simp; done) | (go_simp; rfl)); (case hp => exact (Reps.none _ _)); intro v826 w49 bl hb hg_ hnew_; clear hg_ hnew_; (first | rw [← bI.out] at bl | (simp only [Int.reduceToNat] at bl; rw [← bI.out] at bl)); have HO827 := aM (Kd.S_lower (Kd.S_new' (Kd.S_new' (Kd.S_new' bl (Kd.R_lt (by have X_ := ad.out; exact TR))) (Kd.R_lt (by have X_ := ae.out; exact TR))) (Kd.S_lt (by have X_ := al.out; exact TS))) (below_size TB)); replace ad := aM (Kd.R_below (by have X_ := ad.out; exact TR) hb); replace ae := aM (Kd.R_below (by have X_ := ae.out; exact TR) hb); replace al := aM (Kd.S_elder' (by have X_ := al.out; exact TS) (Kd.S_base bl) hb); replace ac := aM (blk_below (g := ao) (o := .cells #[.slice az aq.length aA, .slice aE ap.length aB, .int .i64 au, .int .i64 aw, .int .i64 ar, .slice aF ab.length ay] 33 (0, 0)) TK hb); replace an := aM (blk_below (g := gb810) (o := .cells #[.slice none 0 0, .slice none 0 0, .int .i64 0, .int .i64 0, .int .i64 0, .slice none 0 0] 33 (0, 0)) TK hb); replace aa := aM (blk_below (g := gb823) (o := .cells #[aC, aD, .int .i64 ag, .int .i64 af, .int .i64 ah, aJ] 33 (0, 0)) TK hb); replace HB := aM (below_step TB hb); clear hb bl; obtain ⟨Ao51, co51, eo51⟩ := Kd.S_slice HO827.out; subst eo51; have hnb52 := NB823_810.out; have hnc52 := NB810_823.out; obtain ⟨hcz53_0, hcz53_1, hcz53_2, hcz53_3, hcz53_4, hcz53_5⟩ := cz6 aa.out; obtain ⟨hfz53_0, hfz53_1, hfz53_2, hfz53_3, hfz53_4, hfz53_5⟩ := fz6 aa.out; obtain ⟨Ao54, co54, eo54⟩ := Kd.R_slice ad.out; subst eo54; obtain ⟨hcz55_0, hcz55_1, hcz55_2, hcz55_3, hcz55_4, hcz55_5⟩ := cz6 an.out; obtain ⟨hfz55_0, hfz55_1, hfz55_2, hfz55_3, hfz55_4, hfz55_5⟩ := fz6 an.out; obtain ⟨Ao56, co56, eo56⟩ := Kd.R_slice ae.out; subst eo56))
     refine bodyPost_ret (results_cell_row rfl _ _ gb810 33 #[.slice Ao54 ai.length co54, .slice Ao56 aj.length co56, .int .i64 ag, .int .i64 af, .int .i64 ah, .slice Ao51 bg.length co51] (0, 0) _ rfl (by (with_reducible repeat (first | refine blk_drewN ?_ _ | refine blk_drew ?_ | refine blk_alloc ?_ _)); refine blk_put (cs := #[.slice Ao54 ai.length co54, .slice Ao56 aj.length co56, .int .i64 ag, .int .i64 af, .int .i64 ah, .slice none 0 0]) ?_ 5 _ rfl; (with_reducible repeat (first | refine blk_drewN ?_ _ | refine blk_drew ?_ | refine blk_alloc ?_ _)); refine blk_put (cs := #[.slice Ao54 ai.length co54, .slice Ao56 aj.length co56, .int .i64 ag, .int .i64 af, .int .i64 0, .slice none 0 0]) ?_ 4 _ rfl; (with_reducible repeat (first | refine blk_drewN ?_ _ | refine blk_drew ?_ | refine blk_alloc ?_ _)); refine blk_put (cs := #[.slice Ao54 ai.length co54, .slice Ao56 aj.length co56, .int .i64 ag, .int .i64 0, .int .i64 0, .slice none 0 0]) ?_ 3 _ rfl; (with_reducible repeat (first | refine blk_drewN ?_ _ | refine blk_drew ?_ | refine blk_alloc ?_ _)); refine blk_put (cs := #[.slice Ao54 ai.length co54, .slice Ao56 aj.length co56, .int .i64 0, .int .i64 0, .int .i64 0, .slice none 0 0]) ?_ 2 _ rfl; (with_reducible repeat (first | refine blk_drewN ?_ _ | refine blk_drew ?_ | refine blk_alloc ?_ _)); refine blk_put (cs := #[.slice Ao54 ai.length co54, .slice none 0 0, .int .i64 0, .int .i64 0, .int .i64 0, .slice none 0 0]) ?_ 1 _ rfl; (with_reducible repeat (first | refine blk_drewN ?_ _ | refine blk_drew ?_ | refine blk_alloc ?_ _)); refine blk_put (cs := #[.slice none 0 0, .slice none 0 0, .int .i64 0, .int .i64 0, .int .i64 0, .slice none 0 0]) ?_ 0 _ rfl; (with_reducible repeat (first | refine blk_drewN ?_ _ | refine blk_drew ?_ | refine blk_alloc ?_ _)); refine blk_far ?_ NB810_823.out _; (with_reducible repeat (first | refine blk_drewN ?_ _ | refine blk_drew ?_ | refine blk_alloc ?_ _)); exact an.out) Try.underlying33 rfl (by kernel_rfl)) rfl ?_
     exact ⟨_, _, _, by first | rfl | (simp [errW_none, errW_some] <;> rfl) | (simp [*, errW_none, errW_some] <;> rfl), by (with_reducible repeat (first | apply Kd.R_alloc | apply Kd.R_drewN | apply Kd.R_drew)); exact Kd.R_mono (Kd.R_far (p := ⟨gb810, 5, none⟩) (Kd.R_far (p := ⟨gb810, 4, none⟩) (Kd.R_far (p := ⟨gb810, 3, none⟩) (Kd.R_far (p := ⟨gb810, 2, none⟩) (Kd.R_far (p := ⟨gb810, 1, none⟩) (Kd.R_far (p := ⟨gb810, 0, none⟩) (Kd.R_far (p := ⟨gb823, 5, none⟩) (Kd.R_types (Kd.R_types ad.out aa.out (by decide)) an.out (by decide)) (fun _ hk => hk.1.2) (.slice Ao51 bg.length co51)) (fun _ hk => hk.2) (.slice Ao54 ai.length co54)) (fun _ hk => hk.2) (.slice Ao56 aj.length co56)) (fun _ hk => hk.2) (.int .i64 ag)) (fun _ hk => hk.2) (.int .i64 af)) (fun _ hk => hk.2) (.int .i64 ah)) (fun _ hk => hk.2) (.slice Ao51 bg.length co51)) (fun _ hk => hk.1.1), by (with_reducible repeat (first | apply Kd.R_alloc | apply Kd.R_drewN | apply Kd.R_drew)); exact Kd.R_mono (Kd.R_far (p := ⟨gb810, 5, none⟩) (Kd.R_far (p := ⟨gb810, 4, none⟩) (Kd.R_far (p := ⟨gb810, 3, none⟩) (Kd.R_far (p := ⟨gb810, 2, none⟩) (Kd.R_far (p := ⟨gb810, 1, none⟩) (Kd.R_far (p := ⟨gb810, 0, none⟩) (Kd.R_far (p := ⟨gb823, 5, none⟩) (Kd.R_types (Kd.R_types ae.out aa.out (by decide)) an.out (by decide)) (fun _ hk => hk.1.2) (.slice Ao51 bg.length co51)) (fun _ hk => hk.2) (.slice Ao54 ai.length co54)) (fun _ hk => hk.2) (.slice Ao56 aj.length co56)) (fun _ hk => hk.2) (.int .i64 ag)) (fun _ hk => hk.2) (.int .i64 af)) (fun _ hk => hk.2) (.int .i64 ah)) (fun _ hk => hk.2) (.slice Ao51 bg.length co51)) (fun _ hk => hk.1.1), by (with_reducible repeat (first | apply Kd.S_alloc | apply Kd.S_drewN | apply Kd.S_drew)); exact Kd.S_mono (Kd.S_far (p := ⟨gb810, 5, none⟩) (Kd.S_far (p := ⟨gb810, 4, none⟩) (Kd.S_far (p := ⟨gb810, 3, none⟩) (Kd.S_far (p := ⟨gb810, 2, none⟩) (Kd.S_far (p := ⟨gb810, 1, none⟩) (Kd.S_far (p := ⟨gb810, 0, none⟩) (Kd.S_far (p := ⟨gb823, 5, none⟩) (Kd.S_types (Kd.S_types HO827.out aa.out (by decide)) an.out (by decide)) (fun _ hk => hk.1.2) (.slice Ao51 bg.length co51)) (fun _ hk => hk.2) (.slice Ao54 ai.length co54)) (fun _ hk => hk.2) (.slice Ao56 aj.length co56)) (fun _ hk => hk.2) (.int .i64 ag)) (fun _ hk => hk.2) (.int .i64 af)) (fun _ hk => hk.2) (.int .i64 ah)) (fun _ hk => hk.2) (.slice Ao51 bg.length co51)) (fun _ hk => ⟨hk.1.1.1.1.2, hk.1.1.1.2⟩), TB⟩
 ·replace c19 := Bool.eq_false_iff.mpr c19
  subst c19
  replace H := ifF H
  simp only [Option.some.injEq, Prod.mk.injEq] at H
  obtain ⟨rfl, rfl, rfl, rfl, rfl, rfl⟩ := H
  go_wp2_with (first | ((with_reducible refine gate_callee (f := 27) rfl ?_); refine gL (some 10) Try.func27 #[.agg #[.slice az aq.length aA, .slice aE ap.length aB, .int .i64 au, .int .i64 aw, .int .i64 ar, .slice aF ab.length ay]] ?_; (with_reducible refine (spec_DiskOk.calls k _ _ aq _ _ ap au aw ar _ _ ab false _ ?side1 ?side2 ?side3 ?side4 ?side5 ?side6 A4.out).mono ?_); (case side1 => exact Kd.C_below bt.out TB); (case side2 => exact bs.out); (case side3 => exact Kd.C_below bv.out TB); (case side4 => exact bx.out); (case side5 => exact Kd.C_below bm.out TB); (case side6 => exact bu.out); rintro e w57 ⟨rfl, hb⟩; refine ⟨_, rfl, ?_⟩; replace HO813 := aM (Kd.R_below (by (with_reducible repeat (first | apply Kd.R_alloc | apply Kd.R_drewN | apply Kd.R_drew)); exact (R_off (Kd.R_types HO813.out aa.out (by decide)) TO)) hb); replace HO816 := aM (Kd.R_below (by (with_reducible repeat (first | apply Kd.R_alloc | apply Kd.R_drewN | apply Kd.R_drew)); exact (R_off (Kd.R_types HO816.out aa.out (by decide)) TO)) hb); replace HO822 := aM (Kd.S_below (by (with_reducible repeat (first | apply Kd.S_alloc | apply Kd.S_drewN | apply Kd.S_drew)); exact (S_off (Kd.S_types HO822.out aa.out (by decide)) TO)) hb); replace ac := aM (blk_below (g := ao) (o := .cells #[.slice az aq.length aA, .slice aE ap.length aB, .int .i64 au, .int .i64 aw, .int .i64 ar, .slice aF ab.length ay] 33 (0, 0)) (by (with_reducible repeat (first | refine blk_drewN ?_ _ | refine blk_drew ?_ | refine blk_alloc ?_ _)); refine blk_far ?_ NB809_823.out _; (with_reducible repeat (first | refine blk_drewN ?_ _ | refine blk_drew ?_ | refine blk_alloc ?_ _)); refine blk_far ?_ NB809_823.out _; (with_reducible repeat (first | refine blk_drewN ?_ _ | refine blk_drew ?_ | refine blk_alloc ?_ _)); refine blk_far ?_ NB809_823.out _; (with_reducible repeat (first | refine blk_drewN ?_ _ | refine blk_drew ?_ | refine blk_alloc ?_ _)); refine blk_far ?_ NB809_823.out _; (with_reducible repeat (first | refine blk_drewN ?_ _ | refine blk_drew ?_ | refine blk_alloc ?_ _)); refine blk_far ?_ NB809_823.out _; (with_reducible repeat (first | refine blk_drewN ?_ _ | refine blk_drew ?_ | refine blk_alloc ?_ _)); refine blk_far ?_ NB809_823.out _; (with_reducible repeat (first | refine blk_drewN ?_ _ | refine blk_drew ?_ | refine blk_alloc ?_ _)); exact ac.out) hb); replace an := aM (blk_below (g := gb810) (o := .cells #[.slice none 0 0, .slice none 0 0, .int .i64 0, .int .i64 0, .int .i64 0, .slice none 0 0] 33 (0, 0)) (by (with_reducible repeat (first | refine blk_drewN ?_ _ | refine blk_drew ?_ | refine blk_alloc ?_ _)); refine blk_far ?_ NB810_823.out _; (with_reducible repeat (first | refine blk_drewN ?_ _ | refine blk_drew ?_ | refine blk_alloc ?_ _)); refine blk_far ?_ NB810_823.out _; (with_reducible repeat (first | refine blk_drewN ?_ _ | refine blk_drew ?_ | refine blk_alloc ?_ _)); refine blk_far ?_ NB810_823.out _; (with_reducible repeat (first | refine blk_drewN ?_ _ | refine blk_drew ?_ | refine blk_alloc ?_ _)); refine blk_far ?_ NB810_823.out _; (with_reducible repeat (first | refine blk_drewN ?_ _ | refine blk_drew ?_ | refine blk_alloc ?_ _)); refine blk_far ?_ NB810_823.out _; (with_reducible repeat (first | refine blk_drewN ?_ _ | refine blk_drew ?_ | refine blk_alloc ?_ _)); refine blk_far ?_ NB810_823.out _; (with_reducible repeat (first | refine blk_drewN ?_ _ | refine blk_drew ?_ | refine blk_alloc ?_ _)); exact an.out) hb); replace aa := aM (blk_below (g := gb823) (o := .cells #[.slice Ao12 av.length co12, .slice Ao16 ax.length co16, .int .i64 aG, .int .i64 aI, .int .i64 aK, .slice Ao17 aX.length co17] 33 (0, 0)) (by (with_reducible repeat (first | refine blk_drewN ?_ _ | refine blk_drew ?_ | refine blk_alloc ?_ _)); refine blk_put (cs := #[.slice Ao12 av.length co12, .slice Ao16 ax.length co16, .int .i64 aG, .int .i64 aI, .int .i64 aK, .slice none 0 0]) ?_ 5 _ rfl; (with_reducible repeat (first | refine blk_drewN ?_ _ | refine blk_drew ?_ | refine blk_alloc ?_ _)); refine blk_put (cs := #[.slice Ao12 av.length co12, .slice Ao16 ax.length co16, .int .i64 aG, .int .i64 aI, .int .i64 0, .slice none 0 0]) ?_ 4 _ rfl; (with_reducible repeat (first | refine blk_drewN ?_ _ | refine blk_drew ?_ | refine blk_alloc ?_ _)); refine blk_put (cs := #[.slice Ao12 av.length co12, .slice Ao16 ax.length co16, .int .i64 aG, .int .i64 0, .int .i64 0, .slice none 0 0]) ?_ 3 _ rfl; (with_reducible repeat (first | refine blk_drewN ?_ _ | refine blk_drew ?_ | refine blk_alloc ?_ _)); refine blk_put (cs := #[.slice Ao12 av.length co12, .slice Ao16 ax.length co16, .int .i64 0, .int .i64 0, .int .i64 0, .slice none 0 0]) ?_ 2 _ rfl; (with_reducible repeat (first | refine blk_drewN ?_ _ | refine blk_drew ?_ | refine blk_alloc ?_ _)); refine blk_put (cs := #[.slice Ao12 av.length co12, .slice none 0 0, .int .i64 0, .int .i64 0, .int .i64 0, .slice none 0 0]) ?_ 1 _ rfl; (with_reducible repeat (first | refine blk_drewN ?_ _ | refine blk_drew ?_ | refine blk_alloc ?_ _)); refine blk_put (cs := #[.slice none 0 0, .slice none 0 0, .int .i64 0, .int .i64 0, .int .i64 0, .slice none 0 0]) ?_ 0 _ rfl; (with_reducible repeat (first | refine blk_drewN ?_ _ | refine blk_drew ?_ | refine blk_alloc ?_ _)); exact aa.out) hb); replace HB := aM (below_step TB hb); clear hb; have hnb58 := NB823_809.out; have hnc58 := NB809_823.out; have hnb59 := NB823_810.out; have hnc59 := NB810_823.out; obtain ⟨hcz60_0, hcz60_1, hcz60_2, hcz60_3, hcz60_4, hcz60_5⟩ := cz6 aa.out; obtain ⟨hfz60_0, hfz60_1, hfz60_2, hfz60_3, hfz60_4, hfz60_5⟩ := fz6 aa.out; have hnb61 := NB810_809.out; have hnc61 := NB809_810.out; obtain ⟨hcz62_0, hcz62_1, hcz62_2, hcz62_3, hcz62_4, hcz62_5⟩ := cz6 an.out; obtain ⟨hfz62_0, hfz62_1, hfz62_2, hfz62_3, hfz62_4, hfz62_5⟩ := fz6 an.out))
  refine bodyPost_ret (results_cell_row rfl _ _ gb810 33 #[.slice Ao12 av.length co12, .slice Ao16 ax.length co16, .int .i64 aG, .int .i64 aI, .int .i64 aK, .slice Ao17 aX.length co17] (0, 0) _ rfl (by (with_reducible repeat (first | refine blk_drewN ?_ _ | refine blk_drew ?_ | refine blk_alloc ?_ _)); refine blk_put (cs := #[.slice Ao12 av.length co12, .slice Ao16 ax.length co16, .int .i64 aG, .int .i64 aI, .int .i64 aK, .slice none 0 0]) ?_ 5 _ rfl; (with_reducible repeat (first | refine blk_drewN ?_ _ | refine blk_drew ?_ | refine blk_alloc ?_ _)); refine blk_put (cs := #[.slice Ao12 av.length co12, .slice Ao16 ax.length co16, .int .i64 aG, .int .i64 aI, .int .i64 0, .slice none 0 0]) ?_ 4 _ rfl; (with_reducible repeat (first | refine blk_drewN ?_ _ | refine blk_drew ?_ | refine blk_alloc ?_ _)); refine blk_put (cs := #[.slice Ao12 av.length co12, .slice Ao16 ax.length co16, .int .i64 aG, .int .i64 0, .int .i64 0, .slice none 0 0]) ?_ 3 _ rfl; (with_reducible repeat (first | refine blk_drewN ?_ _ | refine blk_drew ?_ | refine blk_alloc ?_ _)); refine blk_put (cs := #[.slice Ao12 av.length co12, .slice Ao16 ax.length co16, .int .i64 0, .int .i64 0, .int .i64 0, .slice none 0 0]) ?_ 2 _ rfl; (with_reducible repeat (first | refine blk_drewN ?_ _ | refine blk_drew ?_ | refine blk_alloc ?_ _)); refine blk_put (cs := #[.slice Ao12 av.length co12, .slice none 0 0, .int .i64 0, .int .i64 0, .int .i64 0, .slice none 0 0]) ?_ 1 _ rfl; (with_reducible repeat (first | refine blk_drewN ?_ _ | refine blk_drew ?_ | refine blk_alloc ?_ _)); refine blk_put (cs := #[.slice none 0 0, .slice none 0 0, .int .i64 0, .int .i64 0, .int .i64 0, .slice none 0 0]) ?_ 0 _ rfl; (with_reducible repeat (first | refine blk_drewN ?_ _ | refine blk_drew ?_ | refine blk_alloc ?_ _)); exact an.out) Try.underlying33 rfl (by kernel_rfl)) rfl ?_
  exact ⟨_, _, _, by first | rfl | (simp [errW_none, errW_some] <;> rfl) | (simp [*, errW_none, errW_some] <;> rfl), by (with_reducible repeat (first | apply Kd.R_alloc | apply Kd.R_drewN | apply Kd.R_drew)); exact Kd.R_mono (Kd.R_far (p := ⟨gb810, 5, none⟩) (Kd.R_far (p := ⟨gb810, 4, none⟩) (Kd.R_far (p := ⟨gb810, 3, none⟩) (Kd.R_far (p := ⟨gb810, 2, none⟩) (Kd.R_far (p := ⟨gb810, 1, none⟩) (Kd.R_far (p := ⟨gb810, 0, none⟩) (Kd.R_types HO813.out an.out (by decide)) (fun _ hk => hk.2) (.slice Ao12 av.length co12)) (fun _ hk => hk.2) (.slice Ao16 ax.length co16)) (fun _ hk => hk.2) (.int .i64 aG)) (fun _ hk => hk.2) (.int .i64 aI)) (fun _ hk => hk.2) (.int .i64 aK)) (fun _ hk => hk.2) (.slice Ao17 aX.length co17)) (fun _ hk => hk.1), by (with_reducible repeat (first | apply Kd.R_alloc | apply Kd.R_drewN | apply Kd.R_drew)); exact Kd.R_mono (Kd.R_far (p := ⟨gb810, 5, none⟩) (Kd.R_far (p := ⟨gb810, 4, none⟩) (Kd.R_far (p := ⟨gb810, 3, none⟩) (Kd.R_far (p := ⟨gb810, 2, none⟩) (Kd.R_far (p := ⟨gb810, 1, none⟩) (Kd.R_far (p := ⟨gb810, 0, none⟩) (Kd.R_types HO816.out an.out (by decide)) (fun _ hk => hk.2) (.slice Ao12 av.length co12)) (fun _ hk => hk.2) (.slice Ao16 ax.length co16)) (fun _ hk => hk.2) (.int .i64 aG)) (fun _ hk => hk.2) (.int .i64 aI)) (fun _ hk => hk.2) (.int .i64 aK)) (fun _ hk => hk.2) (.slice Ao17 aX.length co17)) (fun _ hk => hk.1), by (with_reducible repeat (first | apply Kd.S_alloc | apply Kd.S_drewN | apply Kd.S_drew)); exact Kd.S_mono (Kd.S_far (p := ⟨gb810, 5, none⟩) (Kd.S_far (p := ⟨gb810, 4, none⟩) (Kd.S_far (p := ⟨gb810, 3, none⟩) (Kd.S_far (p := ⟨gb810, 2, none⟩) (Kd.S_far (p := ⟨gb810, 1, none⟩) (Kd.S_far (p := ⟨gb810, 0, none⟩) (Kd.S_types HO822.out an.out (by decide)) (fun _ hk => hk.2) (.slice Ao12 av.length co12)) (fun _ hk => hk.2) (.slice Ao16 ax.length co16)) (fun _ hk => hk.2) (.int .i64 aG)) (fun _ hk => hk.2) (.int .i64 aI)) (fun _ hk => hk.2) (.int .i64 aK)) (fun _ hk => hk.2) (.slice Ao17 aX.length co17)) (fun _ hk => ⟨hk.1.1, hk.1.2⟩), TB⟩

end Go.Proofs.Ytogilihkphjjbaa.Q
