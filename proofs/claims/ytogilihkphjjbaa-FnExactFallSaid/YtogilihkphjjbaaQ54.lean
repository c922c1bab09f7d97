/- Functions of the program as plain Lean functions, and that a call of each comes to what its function tells. Written by a program of this seat. -/
import Derived.Test.YtogilihkphjjbaaQ0
import Derived.Test.YtogilihkphjjbaaQ20
import Derived.Test.YtogilihkphjjbaaQ34
import Derived.Test.YtogilihkphjjbaaQ36
import Derived.Test.YtogilihkphjjbaaQ53
namespace Go.Proofs.Ytogilihkphjjbaa.Q
open Go.RowKit Go.Proofs.YtogilihkphjjbaaW.PrintWords Go.Proofs.YtogilihkphjjbaaW.PrintLast Go.Proofs.YtogilihkphjjbaaW.PrintMore
attribute [local go_sem] max2_int min2_int max_two min_two max_three min_three max_four min_four   -- for this text's walks alone
set_option linter.unusedVariables false
set_option linter.unusedSimpArgs false

/-! ### spec_Fall: function 49 -/
def spec_Fall.l0 : Nat → Int → Int → List Int → List Int → Int → Int → Int → List (S55) → List Int → List Int → Int → Int → Int → List (S55) → Option (List Int × List Int × Int × Int × Int × (List (S55)))
  | 0, _, _, _, _, _, _, _, _, _, _, _, _, _, _ => none
  | k + 1, x1, x6, x841000, x841001, x841002, x841003, x841004, x841005, x855000, x855001, x855002, x855003, x855004, x855005 => if x6 < (x841005.length : Int) then ((spec_InSet.f x1 x6).bind fun t859 => (if t859 = true then (if 0 ≤ x6 then ((spec_OnePut.f k x855000 x855001 x855002 x855003 x855004 x855005 ((rd_T55 x841005 x6).f0) ((rd_T55 x841005 x6).f1) ((rd_T55 x841005 x6).f2) ((rd_T55 x841005 x6).f3.f0) ((rd_T55 x841005 x6).f3.f1) ((rd_T55 x841005 x6).f3.f2)).bind fun bt861 => (spec_Fall.l0 k x1 (wrap64 (x6 + 1)) x841000 x841001 x841002 x841003 x841004 x841005 bt861.1 bt861.2.1 bt861.2.2.1 bt861.2.2.2.1 bt861.2.2.2.2.1 bt861.2.2.2.2.2)) else (none)) else (spec_Fall.l0 k x1 (wrap64 (x6 + 1)) x841000 x841001 x841002 x841003 x841004 x841005 x855000 x855001 x855002 x855003 x855004 x855005))) else (some (x855000, x855001, x855002, x855003, x855004, (([] : List (S55)))))
def spec_Fall.f (k : Nat) (l0_0 : List Int) (l0_1 : List Int) (a0_2 : Int) (a0_3 : Int) (a0_4 : Int) (l0_5 : List (S55)) (a1 : Int) : Option (List Int × List Int × Int × Int × Int × (List (S55))) := (spec_l9Copy.f k l0_0 l0_1 a0_2 a0_3 a0_4 l0_5).bind fun bt842 => ((spec_DiskOk.f k l0_0 l0_1 a0_2 a0_3 a0_4 l0_5).bind fun t855 => (if t855 = true then (spec_Fall.l0 k a1 0 l0_0 l0_1 a0_2 a0_3 a0_4 l0_5 bt842.1 bt842.2.1 bt842.2.2.1 bt842.2.2.2.1 bt842.2.2.2.2.1 bt842.2.2.2.2.2) else (some (bt842.1, bt842.2.1, bt842.2.2.1, bt842.2.2.2.1, bt842.2.2.2.2.1, bt842.2.2.2.2.2))))
theorem spec_Fall.mono_l : ∀ k, (∀ y0 y1 y2 y3 y4 y5 y6 y7 y8 y9 y10 y11 y12 y13, LeO (spec_Fall.l0 k y0 y1 y2 y3 y4 y5 y6 y7 y8 y9 y10 y11 y12 y13) (spec_Fall.l0 (k + 1) y0 y1 y2 y3 y4 y5 y6 y7 y8 y9 y10 y11 y12 y13))
  | 0 => fun _ _ _ _ _ _ _ _ _ _ _ _ _ _ r h => by simp [spec_Fall.l0] at h
  | k + 1 => by
    have m0_ := @spec_DiskOk.mono
    have m1_ := @spec_OnePut.mono
    have m2_ := @spec_l9Copy.mono
    have ih0 := spec_Fall.mono_l k
    · intro y0 y1 y2 y3 y4 y5 y6 y7 y8 y9 y10 y11 y12 y13
      unfold spec_Fall.l0
      exact LM
theorem spec_Fall.mono : ∀ a0 a1 a2 a3 a4 a5 a6 k, LeO (spec_Fall.f k a0 a1 a2 a3 a4 a5 a6) (spec_Fall.f (k + 1) a0 a1 a2 a3 a4 a5 a6) := by
  intro a0 a1 a2 a3 a4 a5 a6 k
  have m0_ := @spec_DiskOk.mono
  have m1_ := @spec_OnePut.mono
  have m2_ := @spec_l9Copy.mono
  have ih0 := spec_Fall.mono_l k
  unfold spec_Fall.f
  exact LM
def spec_Fall.T8 : Bool × List (List Nat × List Nat) := (true, [([], []), ([], []), ([1], [1]), ([], []), ([2, 3], [2, 3]), ([4], [4]), ([0, 5], [0, 5]), ([6, 6, 0, 1, 2, 3, 4, 5, 6], [6])])
def spec_Fall.B8 : List Nat := [0, 0, 2, 0, 14, 30, 63, 127]
theorem spec_Fall.tab8 : rtab .any (opsOf Try.f49 8) = spec_Fall.T8 := by kernel_rfl
theorem spec_Fall.bits8 : waitsOk spec_Fall.T8.2 spec_Fall.B8 = true := by kernel_rfl
set_option maxHeartbeats 40000000 in
set_option maxRecDepth 100000 in
theorem spec_Fall.calls (k : Nat) (A0_0 : Option Addr) (c0_0 : Nat) (l0_0 : List Int) (A0_1 : Option Addr) (c0_1 : Nat) (l0_1 : List Int) (a0_2 : Int) (a0_3 : Int) (a0_4 : Int) (A0_5 : Option Addr) (c0_5 : Nat) (l0_5 : List (S55)) (a1 : Int) (r1 : List Int) (r2 : List Int) (r3 : Int) (r4 : Int) (r5 : Int) (r6 : List (S55)) (w : World) (hr0_0 : Kd.C (Kd.int .u8) w A0_0 l0_0.length l0_0) (hc0_0 : l0_0.length ≤ c0_0) (hr0_1 : Kd.C (Kd.int .u8) w A0_1 l0_1.length l0_1) (hc0_1 : l0_1.length ≤ c0_1) (hr0_5 : Kd.C k55 w A0_5 l0_5.length l0_5) (hc0_5 : l0_5.length ≤ c0_5) (h : spec_Fall.f k l0_0 l0_1 a0_2 a0_3 a0_4 l0_5 a1 = some (r1, r2, r3, r4, r5, r6)) :
    Calls Try.prog 49 #[.agg #[.slice A0_0 l0_0.length c0_0, .slice A0_1 l0_1.length c0_1, .int .i64 a0_2, .int .i64 a0_3, .int .i64 a0_4, .slice A0_5 l0_5.length c0_5], .int .i64 a1] w fun e w' => ∃ v0_ v1_ v5_ : Value, e = .returned (.agg #[v0_, v1_, .int .i64 r3, .int .i64 r4, .int .i64 r5, v5_]) ∧ Kd.R (Kd.int .u8) 5 w' w.heap.size (fun k_ => some k_ ≠ (v1_ : Value).ownBlock) v0_ r1 ∧ Kd.R (Kd.int .u8) 5 w' w.heap.size (fun k_ => some k_ ≠ (v0_ : Value).ownBlock) v1_ r2 ∧ Kd.S k55 55 w' w.heap.size (fun k_ => some k_ ≠ (v0_ : Value).ownBlock ∧ some k_ ≠ (v1_ : Value).ownBlock) v5_ r6 ∧ Below w.heap.size w w' := by
  have hu33 := Try.underlying33
  have hu55 := Try.underlying55
  have HR0_0 := aM hr0_0
  have HC0_0 := aM hc0_0
  clear hr0_0 hc0_0
  have HR0_1 := aM hr0_1
  have HC0_1 := aM hc0_1
  clear hr0_1 hc0_1
  have HR0_5 := aM hr0_5
  have HC0_5 := aM hc0_5
  clear hr0_5 hc0_5
  have HB := aM (Below.refl w.heap.size w)
  have H := h
  clear h
  unfold spec_Fall.f at H
  replace H := bE H
  obtain ⟨⟨t842, t845, t848, t849, t850, t851⟩, A3, H⟩ := H
  dsimp only at H
  replace H := bE H
  obtain ⟨t855, A4, H⟩ := H
  go_enter Try.func49, Try.ntmps49
  go_wp2_with (first | ((with_reducible refine gate_dst (N := 2) rfl ?_); refine gBx 2 #[.slice A0_0 l0_0.length c0_0, .slice A0_1 l0_1.length c0_1, .int .i64 a0_2, .int .i64 a0_3, .int .i64 a0_4, .slice A0_5 l0_5.length c0_5] 33 ?_; intro gb840 hg w6 hbox hb; have BK840 := aM (hbox); have GW840 := aM ((by rw [hg]; exact (below_size TB) : w.heap.size ≤ gb840)); have GE840 := aM ((by rw [hg]; exact (below_size TB) : w.heap.size ≤ gb840)); replace HB := aM (below_step TB hb); clear hb hbox hg) | ((with_reducible refine gate_dst (N := 4) rfl ?_); refine gBx 4 #[.slice none 0 0, .slice none 0 0, .int .i64 0, .int .i64 0, .int .i64 0, .slice none 0 0] 33 ?_; intro gb841 hg w7 hbox hb; have BK841 := aM (hbox); have GW841 := aM ((by rw [hg]; exact (below_size TB) : w.heap.size ≤ gb841)); have GE841 := aM ((by rw [hg]; exact (below_size TB) : w.heap.size ≤ gb841)); have NB840_841 := aM ((by rw [hg]; exact Nat.ne_of_lt (blk_lt (g := gb840) (o := .cells #[.slice A0_0 l0_0.length c0_0, .slice A0_1 l0_1.length c0_1, .int .i64 a0_2, .int .i64 a0_3, .int .i64 a0_4, .slice A0_5 l0_5.length c0_5] 33 (0, 0)) TK) : gb840 ≠ gb841)); have NB841_840 := aM ((by rw [hg]; exact Nat.ne_of_gt (blk_lt (g := gb840) (o := .cells #[.slice A0_0 l0_0.length c0_0, .slice A0_1 l0_1.length c0_1, .int .i64 a0_2, .int .i64 a0_3, .int .i64 a0_4, .slice A0_5 l0_5.length c0_5] 33 (0, 0)) TK) : gb841 ≠ gb840)); replace BK840 := aM (blk_below (g := gb840) (o := .cells #[.slice A0_0 l0_0.length c0_0, .slice A0_1 l0_1.length c0_1, .int .i64 a0_2, .int .i64 a0_3, .int .i64 a0_4, .slice A0_5 l0_5.length c0_5] 33 (0, 0)) TK hb); replace HB := aM (below_step TB hb); clear hb hbox hg; have hnb8 := NB840_841.out; have hnc8 := NB841_840.out; obtain ⟨hcz9_0, hcz9_1, hcz9_2, hcz9_3, hcz9_4, hcz9_5⟩ := cz6 BK840.out; obtain ⟨hfz9_0, hfz9_1, hfz9_2, hfz9_3, hfz9_4, hfz9_5⟩ := fz6 BK840.out) | ((with_reducible refine gate_callee (f := 76) rfl ?_); refine gL (some 8) Try.func76 #[.agg #[.slice A0_0 l0_0.length c0_0, .slice A0_1 l0_1.length c0_1, .int .i64 a0_2, .int .i64 a0_3, .int .i64 a0_4, .slice A0_5 l0_5.length c0_5]] ?_; (with_reducible refine (spec_l9Copy.calls k _ _ l0_0 _ _ l0_1 a0_2 a0_3 a0_4 _ _ l0_5 t842 t845 t848 t849 t850 t851 _ ?side1 ?side2 ?side3 ?side4 ?side5 ?side6 A3.out).mono ?_); (case side1 => have X_ := (Kd.C_below HR0_0.out HB.out); exact TC); (case side2 => exact HC0_0.out); (case side3 => have X_ := (Kd.C_below HR0_1.out HB.out); exact TC); (case side4 => exact HC0_1.out); (case side5 => have X_ := (Kd.C_below HR0_5.out HB.out); exact TC); (case side6 => exact HC0_5.out); rintro e w10 ⟨v843, v846, v852, rfl, ho0, ho1, ho2, hb⟩; refine ⟨_, rfl, ?_⟩; have HO844 := aM (Kd.R_lower ho0 (below_size TB)); have HO847 := aM (Kd.R_lower ho1 (below_size TB)); have HO853 := aM (Kd.S_lower ho2 (below_size TB)); replace BK840 := aM (blk_below (g := gb840) (o := .cells #[.slice A0_0 l0_0.length c0_0, .slice A0_1 l0_1.length c0_1, .int .i64 a0_2, .int .i64 a0_3, .int .i64 a0_4, .slice A0_5 l0_5.length c0_5] 33 (0, 0)) TK hb); replace BK841 := aM (blk_below (g := gb841) (o := .cells #[.slice none 0 0, .slice none 0 0, .int .i64 0, .int .i64 0, .int .i64 0, .slice none 0 0] 33 (0, 0)) TK hb); replace HB := aM (below_step TB hb); clear ho0 ho1 ho2 hb) | ((with_reducible refine gate_dst (N := 5) rfl ?_); refine gBx 5 #[.slice none 0 0, .slice none 0 0, .int .i64 0, .int .i64 0, .int .i64 0, .slice none 0 0] 33 ?_; intro gb854 hg w11 hbox hb; have BK854 := aM (hbox); have GW854 := aM ((by rw [hg]; exact (below_size TB) : w.heap.size ≤ gb854)); have GE854 := aM ((by rw [hg]; exact (below_size TB) : w.heap.size ≤ gb854)); have NB840_854 := aM ((by rw [hg]; exact Nat.ne_of_lt (blk_lt (g := gb840) (o := .cells #[.slice A0_0 l0_0.length c0_0, .slice A0_1 l0_1.length c0_1, .int .i64 a0_2, .int .i64 a0_3, .int .i64 a0_4, .slice A0_5 l0_5.length c0_5] 33 (0, 0)) TK) : gb840 ≠ gb854)); have NB854_840 := aM ((by rw [hg]; exact Nat.ne_of_gt (blk_lt (g := gb840) (o := .cells #[.slice A0_0 l0_0.length c0_0, .slice A0_1 l0_1.length c0_1, .int .i64 a0_2, .int .i64 a0_3, .int .i64 a0_4, .slice A0_5 l0_5.length c0_5] 33 (0, 0)) TK) : gb854 ≠ gb840)); have NB841_854 := aM ((by rw [hg]; exact Nat.ne_of_lt (blk_lt (g := gb841) (o := .cells #[.slice none 0 0, .slice none 0 0, .int .i64 0, .int .i64 0, .int .i64 0, .slice none 0 0] 33 (0, 0)) TK) : gb841 ≠ gb854)); have NB854_841 := aM ((by rw [hg]; exact Nat.ne_of_gt (blk_lt (g := gb841) (o := .cells #[.slice none 0 0, .slice none 0 0, .int .i64 0, .int .i64 0, .int .i64 0, .slice none 0 0] 33 (0, 0)) TK) : gb854 ≠ gb841)); replace HO844 := aM (Kd.R_below (by have X_ := HO844.out; exact TR) hb); replace HO847 := aM (Kd.R_below (by have X_ := HO847.out; exact TR) hb); replace HO853 := aM (Kd.S_below (by have X_ := HO853.out; exact TS) hb); replace BK840 := aM (blk_below (g := gb840) (o := .cells #[.slice A0_0 l0_0.length c0_0, .slice A0_1 l0_1.length c0_1, .int .i64 a0_2, .int .i64 a0_3, .int .i64 a0_4, .slice A0_5 l0_5.length c0_5] 33 (0, 0)) TK hb); replace BK841 := aM (blk_below (g := gb841) (o := .cells #[.slice none 0 0, .slice none 0 0, .int .i64 0, .int .i64 0, .int .i64 0, .slice none 0 0] 33 (0, 0)) TK hb); replace HB := aM (below_step TB hb); clear hb hbox hg; obtain ⟨Ao12, co12, eo12⟩ := Kd.R_slice HO844.out; subst eo12; have hnb13 := NB854_840.out; have hnc13 := NB840_854.out; have hnb14 := NB854_841.out; have hnc14 := NB841_854.out; obtain ⟨hcz15_0, hcz15_1, hcz15_2, hcz15_3, hcz15_4, hcz15_5⟩ := cz6 BK854.out; obtain ⟨hfz15_0, hfz15_1, hfz15_2, hfz15_3, hfz15_4, hfz15_5⟩ := fz6 BK854.out; obtain ⟨Ao16, co16, eo16⟩ := Kd.R_slice HO847.out; subst eo16; obtain ⟨Ao17, co17, eo17⟩ := Kd.S_slice HO853.out; subst eo17; obtain ⟨hcz18_0, hcz18_1, hcz18_2, hcz18_3, hcz18_4, hcz18_5⟩ := cz6 BK840.out; obtain ⟨hfz18_0, hfz18_1, hfz18_2, hfz18_3, hfz18_4, hfz18_5⟩ := fz6 BK840.out) | ((with_reducible refine gate_callee (f := 27) rfl ?_); (with_reducible refine gate_dst (N := 10) rfl ?_); generalize hG_ : wpList _ _ _ _ _ _ = G_))
  subst hG_
  by_cases c19 : t855 = true
  · subst c19
    replace H := ifT H
    have H' := aM H
    clear H
    go_wp2_with (first | ((with_reducible refine gate_callee (f := 27) rfl ?_); refine gL (some 10) Try.func27 #[.agg #[.slice A0_0 l0_0.length c0_0, .slice A0_1 l0_1.length c0_1, .int .i64 a0_2, .int .i64 a0_3, .int .i64 a0_4, .slice A0_5 l0_5.length c0_5]] ?_; (with_reducible refine (spec_DiskOk.calls k _ _ l0_0 _ _ l0_1 a0_2 a0_3 a0_4 _ _ l0_5 true _ ?side1 ?side2 ?side3 ?side4 ?side5 ?side6 A4.out).mono ?_); (case side1 => exact Kd.C_below HR0_0.out TB); (case side2 => exact HC0_0.out); (case side3 => exact Kd.C_below HR0_1.out TB); (case side4 => exact HC0_1.out); (case side5 => exact Kd.C_below HR0_5.out TB); (case side6 => exact HC0_5.out); rintro e w20 ⟨rfl, hb⟩; refine ⟨_, rfl, ?_⟩; replace HO844 := aM (Kd.R_below (by (with_reducible repeat (first | apply Kd.R_alloc | apply Kd.R_drewN | apply Kd.R_drew)); exact (R_off (Kd.R_types HO844.out BK854.out (by decide)) TO)) hb); replace HO847 := aM (Kd.R_below (by (with_reducible repeat (first | apply Kd.R_alloc | apply Kd.R_drewN | apply Kd.R_drew)); exact (R_off (Kd.R_types HO847.out BK854.out (by decide)) TO)) hb); replace HO853 := aM (Kd.S_below (by (with_reducible repeat (first | apply Kd.S_alloc | apply Kd.S_drewN | apply Kd.S_drew)); exact (S_off (Kd.S_types HO853.out BK854.out (by decide)) TO)) hb); replace BK840 := aM (blk_below (g := gb840) (o := .cells #[.slice A0_0 l0_0.length c0_0, .slice A0_1 l0_1.length c0_1, .int .i64 a0_2, .int .i64 a0_3, .int .i64 a0_4, .slice A0_5 l0_5.length c0_5] 33 (0, 0)) (by (with_reducible repeat (first | refine blk_drewN ?_ _ | refine blk_drew ?_ | refine blk_alloc ?_ _)); refine blk_far ?_ NB840_854.out _; (with_reducible repeat (first | refine blk_drewN ?_ _ | refine blk_drew ?_ | refine blk_alloc ?_ _)); refine blk_far ?_ NB840_854.out _; (with_reducible repeat (first | refine blk_drewN ?_ _ | refine blk_drew ?_ | refine blk_alloc ?_ _)); refine blk_far ?_ NB840_854.out _; (with_reducible repeat (first | refine blk_drewN ?_ _ | refine blk_drew ?_ | refine blk_alloc ?_ _)); refine blk_far ?_ NB840_854.out _; (with_reducible repeat (first | refine blk_drewN ?_ _ | refine blk_drew ?_ | refine blk_alloc ?_ _)); refine blk_far ?_ NB840_854.out _; (with_reducible repeat (first | refine blk_drewN ?_ _ | refine blk_drew ?_ | refine blk_alloc ?_ _)); refine blk_far ?_ NB840_854.out _; (with_reducible repeat (first | refine blk_drewN ?_ _ | refine blk_drew ?_ | refine blk_alloc ?_ _)); exact BK840.out) hb); replace BK841 := aM (blk_below (g := gb841) (o := .cells #[.slice none 0 0, .slice none 0 0, .int .i64 0, .int .i64 0, .int .i64 0, .slice none 0 0] 33 (0, 0)) (by (with_reducible repeat (first | refine blk_drewN ?_ _ | refine blk_drew ?_ | refine blk_alloc ?_ _)); refine blk_far ?_ NB841_854.out _; (with_reducible repeat (first | refine blk_drewN ?_ _ | refine blk_drew ?_ | refine blk_alloc ?_ _)); refine blk_far ?_ NB841_854.out _; (with_reducible repeat (first | refine blk_drewN ?_ _ | refine blk_drew ?_ | refine blk_alloc ?_ _)); refine blk_far ?_ NB841_854.out _; (with_reducible repeat (first | refine blk_drewN ?_ _ | refine blk_drew ?_ | refine blk_alloc ?_ _)); refine blk_far ?_ NB841_854.out _; (with_reducible repeat (first | refine blk_drewN ?_ _ | refine blk_drew ?_ | refine blk_alloc ?_ _)); refine blk_far ?_ NB841_854.out _; (with_reducible repeat (first | refine blk_drewN ?_ _ | refine blk_drew ?_ | refine blk_alloc ?_ _)); refine blk_far ?_ NB841_854.out _; (with_reducible repeat (first | refine blk_drewN ?_ _ | refine blk_drew ?_ | refine blk_alloc ?_ _)); exact BK841.out) hb); replace BK854 := aM (blk_below (g := gb854) (o := .cells #[.slice Ao12 t842.length co12, .slice Ao16 t845.length co16, .int .i64 t848, .int .i64 t849, .int .i64 t850, .slice Ao17 t851.length co17] 33 (0, 0)) (by (with_reducible repeat (first | refine blk_drewN ?_ _ | refine blk_drew ?_ | refine blk_alloc ?_ _)); refine blk_put (cs := #[.slice Ao12 t842.length co12, .slice Ao16 t845.length co16, .int .i64 t848, .int .i64 t849, .int .i64 t850, .slice none 0 0]) ?_ 5 _ rfl; (with_reducible repeat (first | refine blk_drewN ?_ _ | refine blk_drew ?_ | refine blk_alloc ?_ _)); refine blk_put (cs := #[.slice Ao12 t842.length co12, .slice Ao16 t845.length co16, .int .i64 t848, .int .i64 t849, .int .i64 0, .slice none 0 0]) ?_ 4 _ rfl; (with_reducible repeat (first | refine blk_drewN ?_ _ | refine blk_drew ?_ | refine blk_alloc ?_ _)); refine blk_put (cs := #[.slice Ao12 t842.length co12, .slice Ao16 t845.length co16, .int .i64 t848, .int .i64 0, .int .i64 0, .slice none 0 0]) ?_ 3 _ rfl; (with_reducible repeat (first | refine blk_drewN ?_ _ | refine blk_drew ?_ | refine blk_alloc ?_ _)); refine blk_put (cs := #[.slice Ao12 t842.length co12, .slice Ao16 t845.length co16, .int .i64 0, .int .i64 0, .int .i64 0, .slice none 0 0]) ?_ 2 _ rfl; (with_reducible repeat (first | refine blk_drewN ?_ _ | refine blk_drew ?_ | refine blk_alloc ?_ _)); refine blk_put (cs := #[.slice Ao12 t842.length co12, .slice none 0 0, .int .i64 0, .int .i64 0, .int .i64 0, .slice none 0 0]) ?_ 1 _ rfl; (with_reducible repeat (first | refine blk_drewN ?_ _ | refine blk_drew ?_ | refine blk_alloc ?_ _)); refine blk_put (cs := #[.slice none 0 0, .slice none 0 0, .int .i64 0, .int .i64 0, .int .i64 0, .slice none 0 0]) ?_ 0 _ rfl; (with_reducible repeat (first | refine blk_drewN ?_ _ | refine blk_drew ?_ | refine blk_alloc ?_ _)); exact BK854.out) hb); replace HB := aM (below_step TB hb); clear hb))
    go_loopg [6] k (fun kq v6 w' => ∃ (x6_1 : Int) (x855000_1 : List Int) (x855001_1 : List Int) (x855002_1 : Int) (x855003_1 : Int) (x855004_1 : Int) (x855005_1 : List (S55)) (u855000 : Value) (u855001 : Value) (u855005 : Value), v6 = .int .i64 x6_1 ∧ Aside0 (spec_Fall.l0 kq a1 x6_1 l0_0 l0_1 a0_2 a0_3 a0_4 l0_5 x855000_1 x855001_1 x855002_1 x855003_1 x855004_1 x855005_1 = some (r1, r2, r3, r4, r5, r6)) ∧ Aside0 (kq ≤ k) ∧ Aside0 (Kd.R (Kd.int .u8) 5 w' w.heap.size (fun k_ => some k_ ≠ (u855001 : Value).ownBlock) u855000 x855000_1) ∧ Aside0 (Kd.R (Kd.int .u8) 5 w' w.heap.size (fun k_ => some k_ ≠ (u855000 : Value).ownBlock) u855001 x855001_1) ∧ Aside0 (Kd.S k55 55 w' w.heap.size (fun k_ => some k_ ≠ (u855000 : Value).ownBlock ∧ some k_ ≠ (u855001 : Value).ownBlock) u855005 x855005_1) ∧ Aside0 (w'.heap[gb840]? = some (.cells #[(.slice A0_0 l0_0.length c0_0), (.slice A0_1 l0_1.length c0_1), .int .i64 a0_2, .int .i64 a0_3, .int .i64 a0_4, (.slice A0_5 l0_5.length c0_5)] 33 (0, 0))) ∧ Aside0 (w'.heap[gb841]? = some (.cells #[(.slice none 0 0), (.slice none 0 0), .int .i64 0, .int .i64 0, .int .i64 0, (.slice none 0 0)] 33 (0, 0))) ∧ Aside0 (w'.heap[gb854]? = some (.cells #[u855000, u855001, .int .i64 x855002_1, .int .i64 x855003_1, .int .i64 x855004_1, u855005] 33 (0, 0))) ∧ Aside0 (Below w.heap.size w w'))
    case atStart => exact ⟨(0), (t842), (t845), (t848), (t849), (t850), (t851), (.slice Ao12 t842.length co12), (.slice Ao16 t845.length co16), (.slice Ao17 t851.length co17), (by first | rfl | (simp; done) | (simp [*]; done)), H', ⟨Nat.le_refl _⟩, ⟨by have X_ := HO844.out; exact TR⟩, ⟨by have X_ := HO847.out; exact TR⟩, ⟨by have X_ := HO853.out; exact TS⟩, ⟨TK⟩, ⟨TK⟩, ⟨TK⟩, ⟨TB⟩⟩
    case round =>
      clear H'
      try clear c1
      try clear c2
      try clear p2
      try clear c4
      try clear c7
      try clear c8
      try clear c13
      try clear c14
      try clear c19
      try clear hcz15_0
      try clear hcz15_1
      try clear hcz15_2
      try clear hcz15_3
      try clear hcz15_4
      try clear hcz15_5
      try clear hcz18_0
      try clear hcz18_1
      try clear hcz18_2
      try clear hcz18_3
      try clear hcz18_4
      try clear hcz18_5
      try clear hcz9_0
      try clear hcz9_1
      try clear hcz9_2
      try clear hcz9_3
      try clear hcz9_4
      try clear hcz9_5
      try clear hfz15_0
      try clear hfz15_1
      try clear hfz15_2
      try clear hfz15_3
      try clear hfz15_4
      try clear hfz15_5
      try clear hfz18_0
      try clear hfz18_1
      try clear hfz18_2
      try clear hfz18_3
      try clear hfz18_4
      try clear hfz18_5
      try clear hfz9_0
      try clear hfz9_1
      try clear hfz9_2
      try clear hfz9_3
      try clear hfz9_4
      try clear hfz9_5
      obtain ⟨x6_1, x855000_1, x855001_1, x855002_1, x855003_1, x855004_1, x855005_1, u855000, u855001, u855005, rfl, HA, HK1, HO_855000, HO_855001, HO_855005, BK840, BK841, BK854, HB⟩ := hrel
      cases gk with
      | zero => exact absurd HA.out (by simp [spec_Fall.l0])
      | succ k1 =>
        have H := HA.out
        clear HA
        simp only [spec_Fall.l0] at H
        by_cases c21 : x6_1 < (l0_5.length : Int)
        · rw [if_pos c21] at H
          have c21b0 : decide (x6_1 < (l0_5.length : Int)) = true := decide_eq_true c21
          clear c21
          replace H := bE H
          obtain ⟨t859, A22, H⟩ := H
          by_cases c23 : t859 = true
          · subst c23
            replace H := ifT H
            replace H := ifN H
            obtain ⟨c24, H⟩ := H
            have c24b0 : decide (0 ≤ x6_1) = true := decide_eq_true c24
            clear c24
            replace H := bE H
            obtain ⟨⟨t861, t864, t867, t868, t869, t870⟩, A25, H⟩ := H
            dsimp only at H
            have H' := aM H
            clear H
            have hnb26 := NB840_841.out
            have hnc26 := NB841_840.out
            have hnb27 := NB840_854.out
            have hnc27 := NB854_840.out
            obtain ⟨hcz28_0, hcz28_1, hcz28_2, hcz28_3, hcz28_4, hcz28_5⟩ := cz6 BK840.out
            obtain ⟨hfz28_0, hfz28_1, hfz28_2, hfz28_3, hfz28_4, hfz28_5⟩ := fz6 BK840.out
            try go_wp2_with (first | ((with_reducible refine gate_callee (f := 85) rfl ?_); refine gL (some 22) Try.func85 #[.int .i64 a1, .int .i64 x6_1] ?_; (with_reducible refine (spec_InSet.calls a1 x6_1 true _ A22.out).mono ?_); rintro e w' ⟨rfl, ⟨nd, rfl⟩⟩; refine ⟨_, rfl, ?_⟩; (try (rw [drewN_self wr]; generalize hq_ : World.drewN wr _ = wr; have n0_ : Aside0 (Kd.R (Kd.int .u8) 5 wr w.heap.size (fun k_ => some k_ ≠ (u855001 : Value).ownBlock) u855000 x855000_1) := ⟨by rw [← hq_]; exact (by have X_ := HO_855000.out; exact TR)⟩; have n1_ : Aside0 (Kd.R (Kd.int .u8) 5 wr w.heap.size (fun k_ => some k_ ≠ (u855000 : Value).ownBlock) u855001 x855001_1) := ⟨by rw [← hq_]; exact (by have X_ := HO_855001.out; exact TR)⟩; have n2_ : Aside0 (Kd.S k55 55 wr w.heap.size (fun k_ => (some k_ ≠ (u855000 : Value).ownBlock ∧ some k_ ≠ (u855001 : Value).ownBlock)) u855005 x855005_1) := ⟨by rw [← hq_]; exact (by have X_ := HO_855005.out; exact TS)⟩; have n3_ : Aside0 (wr.heap[gb840]? = some (.cells #[.slice A0_0 l0_0.length c0_0, .slice A0_1 l0_1.length c0_1, .int .i64 a0_2, .int .i64 a0_3, .int .i64 a0_4, .slice A0_5 l0_5.length c0_5] 33 (0, 0))) := ⟨by rw [← hq_]; exact TK⟩; have n4_ : Aside0 (wr.heap[gb841]? = some (.cells #[.slice none 0 0, .slice none 0 0, .int .i64 0, .int .i64 0, .int .i64 0, .slice none 0 0] 33 (0, 0))) := ⟨by rw [← hq_]; exact TK⟩; have n5_ : Aside0 (wr.heap[gb854]? = some (.cells #[u855000, u855001, .int .i64 x855002_1, .int .i64 x855003_1, .int .i64 x855004_1, u855005] 33 (0, 0))) := ⟨by rw [← hq_]; exact TK⟩; have n6_ : Aside0 (Below w.heap.size w wr) := ⟨by rw [← hq_]; exact TB⟩; clear HO_855000 HO_855001 HO_855005 BK840 BK841 BK854 HB hq_; have HO_855000 := n0_; have HO_855001 := n1_; have HO_855005 := n2_; have BK840 := n3_; have BK841 := n4_; have BK854 := n5_; have HB := n6_; clear n0_ n1_ n2_ n3_ n4_ n5_ n6_))))
            replace HO_855000 := aM (Kd.R_drew HO_855000.out)
            replace HO_855001 := aM (Kd.R_drew HO_855001.out)
            replace HO_855005 := aM (Kd.S_drew HO_855005.out)
            replace BK840 := aM (blk_drew BK840.out)
            replace BK841 := aM (blk_drew BK841.out)
            replace BK854 := aM (blk_drew BK854.out)
            replace HB := aM (below_drew1 HB.out)
            have p860 : 0 ≤ (x6_1 : Int) := DT
            have q860 : x6_1 < (l0_5.length : Int) := DT
            obtain ⟨ad860, A860_2, c860_2, e860, hx860_0, hx860_1, hx860_2, hx860_3, hx860_4, hx860_5, hl860_2, hi860_2⟩ := at_T55 HR0_5.out x6_1 p860 q860
            have hw860_5 := hx860_5
            have hw860_4 := hx860_4
            have hw860_3 := hx860_3
            have hw860_2 := hx860_2
            have hw860_1 := hx860_1
            have hw860_0 := hx860_0
            cases e860
            replace hx860_0 := (HB.out.cell (World.block_lt_of_cell? w _ hx860_0)).trans hx860_0
            replace hx860_1 := (HB.out.cell (World.block_lt_of_cell? w _ hx860_1)).trans hx860_1
            replace hx860_2 := (HB.out.cell (World.block_lt_of_cell? w _ hx860_2)).trans hx860_2
            replace hx860_3 := (HB.out.cell (World.block_lt_of_cell? w _ hx860_3)).trans hx860_3
            replace hx860_4 := (HB.out.cell (World.block_lt_of_cell? w _ hx860_4)).trans hx860_4
            replace hx860_5 := (HB.out.cell (World.block_lt_of_cell? w _ hx860_5)).trans hx860_5
            have HR860_2 := aM hi860_2
            have HC860_2 := aM hl860_2
            clear hi860_2 hl860_2
            replace p860 := eq_true p860
            replace q860 := eq_true q860
            obtain ⟨Ao30, co30, eo30⟩ := Kd.R_slice HO_855000.out
            (first | subst eo30 | (injection eo30 with f1_ f2_ f3_; have f4_ := f1_.symm; have f5_ := f3_.symm; clear f1_ f2_ f3_; subst f4_; subst f5_))
            obtain ⟨Ao31, co31, eo31⟩ := Kd.R_slice HO_855001.out
            (first | subst eo31 | (injection eo31 with f1_ f2_ f3_; have f4_ := f1_.symm; have f5_ := f3_.symm; clear f1_ f2_ f3_; subst f4_; subst f5_))
            obtain ⟨Ao32, co32, eo32⟩ := Kd.S_slice HO_855005.out
            (first | subst eo32 | (injection eo32 with f1_ f2_ f3_; have f4_ := f1_.symm; have f5_ := f3_.symm; clear f1_ f2_ f3_; subst f4_; subst f5_))
            refine start_ (n := 8) (S := fun w' => w'.cell? ⟨gb854, 0, none⟩ = some (.slice Ao30 x855000_1.length co30) ∧ w'.cell? ⟨gb854, 1, none⟩ = some (.slice Ao31 x855001_1.length co31) ∧ w'.cell? ⟨gb854, 2, none⟩ = some (.int .i64 x855002_1) ∧ w'.cell? ⟨gb854, 3, none⟩ = some (.int .i64 x855003_1) ∧ w'.cell? ⟨gb854, 4, none⟩ = some (.int .i64 x855004_1) ∧ w'.cell? ⟨gb854, 5, none⟩ = some (.slice Ao32 x855005_1.length co32) ∧ w'.cell? ⟨gb840, 0, none⟩ = some (.slice A0_0 l0_0.length c0_0) ∧ w'.cell? ⟨gb840, 1, none⟩ = some (.slice A0_1 l0_1.length c0_1) ∧ w'.cell? ⟨gb840, 2, none⟩ = some (.int .i64 a0_2) ∧ w'.cell? ⟨gb840, 3, none⟩ = some (.int .i64 a0_3) ∧ w'.cell? ⟨gb840, 4, none⟩ = some (.int .i64 a0_4) ∧ w'.cell? ⟨gb840, 5, none⟩ = some (.slice (some ad860) l0_5.length c0_5) ∧ w'.cell? (ad860.add ((x6_1).toNat * 6)) = some (.int .i64 ((rd_T55 l0_5 x6_1).f0)) ∧ w'.cell? ⟨(ad860.add ((x6_1).toNat * 6)).block, (ad860.add ((x6_1).toNat * 6)).off + 1, none⟩ = some (.int .i64 ((rd_T55 l0_5 x6_1).f1)) ∧ w'.cell? ⟨(ad860.add ((x6_1).toNat * 6)).block, (ad860.add ((x6_1).toNat * 6)).off + 2, none⟩ = some (.slice A860_2 ((rd_T55 l0_5 x6_1).f2).length c860_2) ∧ w'.cell? ⟨(ad860.add ((x6_1).toNat * 6)).block, (ad860.add ((x6_1).toNat * 6)).off + 3, none⟩ = some (.int .i64 ((rd_T55 l0_5 x6_1).f3.f0)) ∧ w'.cell? ⟨(ad860.add ((x6_1).toNat * 6)).block, (ad860.add ((x6_1).toNat * 6)).off + 4, none⟩ = some (.int .i64 ((rd_T55 l0_5 x6_1).f3.f1)) ∧ w'.cell? ⟨(ad860.add ((x6_1).toNat * 6)).block, (ad860.add ((x6_1).toNat * 6)).off + 5, none⟩ = some (.int .i64 ((rd_T55 l0_5 x6_1).f3.f2))) (ds := [7]) (Array.replicate 8 false) (by kernel_rfl) rfl rfl ⟨(blk_cell BK854.out 0).trans rfl, (blk_cell BK854.out 1).trans rfl, (blk_cell BK854.out 2).trans rfl, (blk_cell BK854.out 3).trans rfl, (blk_cell BK854.out 4).trans rfl, (blk_cell BK854.out 5).trans rfl, (blk_cell BK840.out 0).trans rfl, (blk_cell BK840.out 1).trans rfl, (blk_cell BK840.out 2).trans rfl, (blk_cell BK840.out 3).trans rfl, (blk_cell BK840.out 4).trans rfl, (blk_cell BK840.out 5).trans rfl, ((HB.out.cell (World.block_lt_of_cell? w _ hw860_0)).trans hw860_0), ((HB.out.cell (World.block_lt_of_cell? w _ hw860_1)).trans hw860_1), ((HB.out.cell (World.block_lt_of_cell? w _ hw860_2)).trans hw860_2), ((HB.out.cell (World.block_lt_of_cell? w _ hw860_3)).trans hw860_3), ((HB.out.cell (World.block_lt_of_cell? w _ hw860_4)).trans hw860_4), ((HB.out.cell (World.block_lt_of_cell? w _ hw860_5)).trans hw860_5)⟩ (fun hHeld => ?_); refine with_tabW spec_Fall.tab8 spec_Fall.bits8 (fun HT_ HW_ => ?_)
            generalize wr.drew = w29 at HO_855000 HO_855001 HO_855005 BK840 BK841 BK854 HB HR860_2 hx860_0 hx860_1 hx860_2 hx860_3 hx860_4 hx860_5 hHeld ⊢
            refine pP 1 (some 24) ?_
            refine pP 3 (some 26) ?_
            refine pT 0 (some 23) ?_
            refine pT 2 (some 25) ?_
            refine pP 4 (some 27) ?_
            refine pT 5 (some 28) ?_
            refine pO 6 (some 29) (fun K hK => ?_)
            refine gG Try.func37 #[.agg #[.slice Ao30 x855000_1.length co30, .slice Ao31 x855001_1.length co31, .int .i64 x855002_1, .int .i64 x855003_1, .int .i64 x855004_1, .slice Ao32 x855005_1.length co32], .agg #[.int .i64 ((rd_T55 l0_5 x6_1).f0), .int .i64 ((rd_T55 l0_5 x6_1).f1), .slice A860_2 ((rd_T55 l0_5 x6_1).f2).length c860_2, .int .i64 ((rd_T55 l0_5 x6_1).f3.f0), .int .i64 ((rd_T55 l0_5 x6_1).f3.f1), .int .i64 ((rd_T55 l0_5 x6_1).f3.f2)]] ?_
            with_reducible refine (spec_OnePut.calls k1 _ _ x855000_1 _ _ x855001_1 x855002_1 x855003_1 x855004_1 _ _ x855005_1 ((rd_T55 l0_5 x6_1).f0) ((rd_T55 l0_5 x6_1).f1) _ _ ((rd_T55 l0_5 x6_1).f2) ((rd_T55 l0_5 x6_1).f3.f0) ((rd_T55 l0_5 x6_1).f3.f1) ((rd_T55 l0_5 x6_1).f3.f2) t861 t864 t867 t868 t869 t870 _ ?side1 ?side2 ?side3 ?side4 ?side5 ?side6 ?side7 ?side8 A25.out).mono ?_
            (case side1 => have X_ := (Kd.R_reads' HO_855000.out).2.2; exact TC)
            (case side2 => exact (Kd.R_reads' HO_855000.out).2.1)
            (case side3 => have X_ := (Kd.R_reads' HO_855001.out).2.2; exact TC)
            (case side4 => exact (Kd.R_reads' HO_855001.out).2.1)
            (case side5 => have X_ := (Kd.S_reads' HO_855005.out).2.2; exact TC)
            (case side6 => exact (Kd.S_reads' HO_855005.out).2.1)
            (case side7 => have X_ := (Kd.C_below HR860_2.out HB.out); exact TC)
            (case side8 => exact HC860_2.out)
            rintro e w33 ⟨v862, v865, v871, rfl, ho0, ho1, ho2, hb⟩
            refine ⟨_, rfl, ?_⟩
            have n0_ := aM (Kd.R_mono (Kd.R_told (Kd.R_told (Kd.R_old (by have X_ := HO_855000.out; exact TR) hb) (Kd.R_base ho0)) (Kd.R_base ho1)) (fun _ h_ => h_.1))
            have n1_ := aM (Kd.R_mono (Kd.R_told (Kd.R_told (Kd.R_old (by have X_ := HO_855001.out; exact TR) hb) (Kd.R_base ho0)) (Kd.R_base ho1)) (fun _ h_ => h_.1))
            have n2_ := aM (Kd.S_mono (Kd.S_told (Kd.S_told (Kd.S_told (Kd.S_old (by have X_ := HO_855005.out; exact TS) hb) (Kd.R_base ho0)) (Kd.R_base ho1)) (Kd.S_base ho2)) (fun _ h_ => h_.1))
            have n3_ := aM (Kd.R_lower (Kd.R_new' (Kd.R_new' ho0 (Kd.R_lt (by have X_ := HO_855000.out; exact TR))) (Kd.R_lt (by have X_ := HO_855001.out; exact TR))) (below_size TB))
            have n4_ := aM (Kd.R_lower (Kd.R_new' (Kd.R_new' ho1 (Kd.R_lt (by have X_ := HO_855000.out; exact TR))) (Kd.R_lt (by have X_ := HO_855001.out; exact TR))) (below_size TB))
            have n5_ := aM (Kd.S_lower (Kd.S_new' (Kd.S_new' (Kd.S_new' ho2 (Kd.R_lt (by have X_ := HO_855000.out; exact TR))) (Kd.R_lt (by have X_ := HO_855001.out; exact TR))) (Kd.S_lt (by have X_ := HO_855005.out; exact TS))) (below_size TB))
            have n6_ := aM (blk_below (g := gb840) (o := .cells #[.slice A0_0 l0_0.length c0_0, .slice A0_1 l0_1.length c0_1, .int .i64 a0_2, .int .i64 a0_3, .int .i64 a0_4, .slice (some ad860) l0_5.length c0_5] 33 (0, 0)) TK hb)
            have n7_ := aM (blk_below (g := gb841) (o := .cells #[.slice none 0 0, .slice none 0 0, .int .i64 0, .int .i64 0, .int .i64 0, .slice none 0 0] 33 (0, 0)) TK hb)
            have n8_ := aM (blk_below (g := gb854) (o := .cells #[.slice Ao30 x855000_1.length co30, .slice Ao31 x855001_1.length co31, .int .i64 x855002_1, .int .i64 x855003_1, .int .i64 x855004_1, .slice Ao32 x855005_1.length co32] 33 (0, 0)) TK hb)
            have n9_ := aM (below_step TB hb)
            clear HO_855000
            clear HO_855001
            clear HO_855005
            clear BK840
            clear BK841
            clear BK854
            clear HB
            have HO_855000 := n0_
            have HO_855001 := n1_
            have HO_855005 := n2_
            have HO863 := n3_
            have HO866 := n4_
            have HO872 := n5_
            have BK840 := n6_
            have BK841 := n7_
            have BK854 := n8_
            have HB := n9_
            clear n0_ n1_ n2_ n3_ n4_ n5_ n6_ n7_ n8_ n9_
            (try clear hb)
            (try clear hb2)
            (try clear hk)
            (try clear hi)
            (try clear ho0)
            (try clear ho1)
            (try clear ho2)
            obtain ⟨Ao34, co34, eo34⟩ := Kd.R_slice HO863.out
            (first | subst eo34 | (injection eo34 with f1_ f2_ f3_; have f4_ := f1_.symm; have f5_ := f3_.symm; clear f1_ f2_ f3_; subst f4_; subst f5_))
            obtain ⟨Ao36, co36, eo36⟩ := Kd.R_slice HO866.out
            (first | subst eo36 | (injection eo36 with f1_ f2_ f3_; have f4_ := f1_.symm; have f5_ := f3_.symm; clear f1_ f2_ f3_; subst f4_; subst f5_))
            obtain ⟨Ao41, co41, eo41⟩ := Kd.S_slice HO872.out
            (first | subst eo41 | (injection eo41 with f1_ f2_ f3_; have f4_ := f1_.symm; have f5_ := f3_.symm; clear f1_ f2_ f3_; subst f4_; subst f5_))
            refine hK.out _ _ ⟨(blk_cell BK854.out 0).trans rfl, (blk_cell BK854.out 1).trans rfl, (blk_cell BK854.out 2).trans rfl, (blk_cell BK854.out 3).trans rfl, (blk_cell BK854.out 4).trans rfl, (blk_cell BK854.out 5).trans rfl, (blk_cell BK840.out 0).trans rfl, (blk_cell BK840.out 1).trans rfl, (blk_cell BK840.out 2).trans rfl, (blk_cell BK840.out 3).trans rfl, (blk_cell BK840.out 4).trans rfl, (blk_cell BK840.out 5).trans rfl, ((HB.out.cell (World.block_lt_of_cell? w _ hw860_0)).trans hw860_0), ((HB.out.cell (World.block_lt_of_cell? w _ hw860_1)).trans hw860_1), ((HB.out.cell (World.block_lt_of_cell? w _ hw860_2)).trans hw860_2), ((HB.out.cell (World.block_lt_of_cell? w _ hw860_3)).trans hw860_3), ((HB.out.cell (World.block_lt_of_cell? w _ hw860_4)).trans hw860_4), ((HB.out.cell (World.block_lt_of_cell? w _ hw860_5)).trans hw860_5)⟩ (fun hHeld => ?_)
            clear hK K
            refine nR ?_
            refine pL 7 none (fun K hK => ?_)
            have hs35 : w33.cell? ⟨gb854, 0, none⟩ = some (.slice Ao30 x855000_1.length co30) := (blk_cell BK854.out 0).trans rfl
            have hfs35 := blk_frozen BK854.out 0
            have hns35_0 := NB840_854.out
            have hns35_1 := NB841_854.out
            have hms35_0 := NB854_840.out
            have hms35_1 := NB854_841.out
            have hs37 : w33.cell? ⟨gb854, 1, none⟩ = some (.slice Ao31 x855001_1.length co31) := (blk_cell BK854.out 1).trans rfl
            have hfs37 := blk_frozen BK854.out 1
            have hns37_0 := NB840_854.out
            have hns37_1 := NB841_854.out
            have hms37_0 := NB854_840.out
            have hms37_1 := NB854_841.out
            have hs38 : w33.cell? ⟨gb854, 2, none⟩ = some (.int .i64 x855002_1) := (blk_cell BK854.out 2).trans rfl
            have hfs38 := blk_frozen BK854.out 2
            have hns38_0 := NB840_854.out
            have hns38_1 := NB841_854.out
            have hms38_0 := NB854_840.out
            have hms38_1 := NB854_841.out
            have hs39 : w33.cell? ⟨gb854, 3, none⟩ = some (.int .i64 x855003_1) := (blk_cell BK854.out 3).trans rfl
            have hfs39 := blk_frozen BK854.out 3
            have hns39_0 := NB840_854.out
            have hns39_1 := NB841_854.out
            have hms39_0 := NB854_840.out
            have hms39_1 := NB854_841.out
            have hs40 : w33.cell? ⟨gb854, 4, none⟩ = some (.int .i64 x855004_1) := (blk_cell BK854.out 4).trans rfl
            have hfs40 := blk_frozen BK854.out 4
            have hns40_0 := NB840_854.out
            have hns40_1 := NB841_854.out
            have hms40_0 := NB854_840.out
            have hms40_1 := NB854_841.out
            have hs42 : w33.cell? ⟨gb854, 5, none⟩ = some (.slice Ao32 x855005_1.length co32) := (blk_cell BK854.out 5).trans rfl
            have hfs42 := blk_frozen BK854.out 5
            have hns42_0 := NB840_854.out
            have hns42_1 := NB841_854.out
            have hms42_0 := NB854_840.out
            have hms42_1 := NB854_841.out
            refine skip_ (w1 := ?_) (by rfl) rfl ?_ ?_
            rotate_left
            · go_simp
              rfl
            refine hK.out _ _ ?_
            clear hK K
            refine done_ (done_of HT_.out (by kernel_rfl)) ?_
            try go_wp2
            go_roundg k1
            case measure => have := HK1.out; omega
            case rel => exact ⟨(wrap64 (x6_1 + 1)), (t861), (t864), (t867), (t868), (t869), (t870), (.slice Ao34 t861.length co34), (.slice Ao36 t864.length co36), (.slice Ao41 t870.length co41), (by first | rfl | (simp; done) | (simp [*]; done)), H', ⟨by have := HK1.out; omega⟩, ⟨by (with_reducible repeat (first | apply Kd.R_alloc | apply Kd.R_drewN | apply Kd.R_drew)); exact Kd.R_mono (Kd.R_far (p := ⟨gb854, 5, none⟩) (Kd.R_far (p := ⟨gb854, 4, none⟩) (Kd.R_far (p := ⟨gb854, 3, none⟩) (Kd.R_far (p := ⟨gb854, 2, none⟩) (Kd.R_far (p := ⟨gb854, 1, none⟩) (Kd.R_far (p := ⟨gb854, 0, none⟩) (Kd.R_types HO863.out BK854.out (by decide)) (fun _ hk => hk.2) (.slice Ao34 t861.length co34)) (fun _ hk => hk.2) (.slice Ao36 t864.length co36)) (fun _ hk => hk.2) (.int .i64 t867)) (fun _ hk => hk.2) (.int .i64 t868)) (fun _ hk => hk.2) (.int .i64 t869)) (fun _ hk => hk.2) (.slice Ao41 t870.length co41)) (fun _ hk => hk.1.1.1)⟩, ⟨by (with_reducible repeat (first | apply Kd.R_alloc | apply Kd.R_drewN | apply Kd.R_drew)); exact Kd.R_mono (Kd.R_far (p := ⟨gb854, 5, none⟩) (Kd.R_far (p := ⟨gb854, 4, none⟩) (Kd.R_far (p := ⟨gb854, 3, none⟩) (Kd.R_far (p := ⟨gb854, 2, none⟩) (Kd.R_far (p := ⟨gb854, 1, none⟩) (Kd.R_far (p := ⟨gb854, 0, none⟩) (Kd.R_types HO866.out BK854.out (by decide)) (fun _ hk => hk.2) (.slice Ao34 t861.length co34)) (fun _ hk => hk.2) (.slice Ao36 t864.length co36)) (fun _ hk => hk.2) (.int .i64 t867)) (fun _ hk => hk.2) (.int .i64 t868)) (fun _ hk => hk.2) (.int .i64 t869)) (fun _ hk => hk.2) (.slice Ao41 t870.length co41)) (fun _ hk => hk.1.1.1)⟩, ⟨by (with_reducible repeat (first | apply Kd.S_alloc | apply Kd.S_drewN | apply Kd.S_drew)); exact Kd.S_mono (Kd.S_far (p := ⟨gb854, 5, none⟩) (Kd.S_far (p := ⟨gb854, 4, none⟩) (Kd.S_far (p := ⟨gb854, 3, none⟩) (Kd.S_far (p := ⟨gb854, 2, none⟩) (Kd.S_far (p := ⟨gb854, 1, none⟩) (Kd.S_far (p := ⟨gb854, 0, none⟩) (Kd.S_types HO872.out BK854.out (by decide)) (fun _ hk => hk.2) (.slice Ao34 t861.length co34)) (fun _ hk => hk.2) (.slice Ao36 t864.length co36)) (fun _ hk => hk.2) (.int .i64 t867)) (fun _ hk => hk.2) (.int .i64 t868)) (fun _ hk => hk.2) (.int .i64 t869)) (fun _ hk => hk.2) (.slice Ao41 t870.length co41)) (fun _ hk => ⟨hk.1.1.1.1.1, hk.1.1.1.1.2⟩)⟩, ⟨by (with_reducible repeat (first | refine blk_drewN ?_ _ | refine blk_drew ?_ | refine blk_alloc ?_ _)); refine blk_far ?_ NB840_854.out _; (with_reducible repeat (first | refine blk_drewN ?_ _ | refine blk_drew ?_ | refine blk_alloc ?_ _)); refine blk_far ?_ NB840_854.out _; (with_reducible repeat (first | refine blk_drewN ?_ _ | refine blk_drew ?_ | refine blk_alloc ?_ _)); refine blk_far ?_ NB840_854.out _; (with_reducible repeat (first | refine blk_drewN ?_ _ | refine blk_drew ?_ | refine blk_alloc ?_ _)); refine blk_far ?_ NB840_854.out _; (with_reducible repeat (first | refine blk_drewN ?_ _ | refine blk_drew ?_ | refine blk_alloc ?_ _)); refine blk_far ?_ NB840_854.out _; (with_reducible repeat (first | refine blk_drewN ?_ _ | refine blk_drew ?_ | refine blk_alloc ?_ _)); refine blk_far ?_ NB840_854.out _; (with_reducible repeat (first | refine blk_drewN ?_ _ | refine blk_drew ?_ | refine blk_alloc ?_ _)); exact BK840.out⟩, ⟨by (with_reducible repeat (first | refine blk_drewN ?_ _ | refine blk_drew ?_ | refine blk_alloc ?_ _)); refine blk_far ?_ NB841_854.out _; (with_reducible repeat (first | refine blk_drewN ?_ _ | refine blk_drew ?_ | refine blk_alloc ?_ _)); refine blk_far ?_ NB841_854.out _; (with_reducible repeat (first | refine blk_drewN ?_ _ | refine blk_drew ?_ | refine blk_alloc ?_ _)); refine blk_far ?_ NB841_854.out _; (with_reducible repeat (first | refine blk_drewN ?_ _ | refine blk_drew ?_ | refine blk_alloc ?_ _)); refine blk_far ?_ NB841_854.out _; (with_reducible repeat (first | refine blk_drewN ?_ _ | refine blk_drew ?_ | refine blk_alloc ?_ _)); refine blk_far ?_ NB841_854.out _; (with_reducible repeat (first | refine blk_drewN ?_ _ | refine blk_drew ?_ | refine blk_alloc ?_ _)); refine blk_far ?_ NB841_854.out _; (with_reducible repeat (first | refine blk_drewN ?_ _ | refine blk_drew ?_ | refine blk_alloc ?_ _)); exact BK841.out⟩, ⟨by (with_reducible repeat (first | refine blk_drewN ?_ _ | refine blk_drew ?_ | refine blk_alloc ?_ _)); refine blk_put (cs := #[.slice Ao34 t861.length co34, .slice Ao36 t864.length co36, .int .i64 t867, .int .i64 t868, .int .i64 t869, .slice Ao32 x855005_1.length co32]) ?_ 5 _ rfl; (with_reducible repeat (first | refine blk_drewN ?_ _ | refine blk_drew ?_ | refine blk_alloc ?_ _)); refine blk_put (cs := #[.slice Ao34 t861.length co34, .slice Ao36 t864.length co36, .int .i64 t867, .int .i64 t868, .int .i64 x855004_1, .slice Ao32 x855005_1.length co32]) ?_ 4 _ rfl; (with_reducible repeat (first | refine blk_drewN ?_ _ | refine blk_drew ?_ | refine blk_alloc ?_ _)); refine blk_put (cs := #[.slice Ao34 t861.length co34, .slice Ao36 t864.length co36, .int .i64 t867, .int .i64 x855003_1, .int .i64 x855004_1, .slice Ao32 x855005_1.length co32]) ?_ 3 _ rfl; (with_reducible repeat (first | refine blk_drewN ?_ _ | refine blk_drew ?_ | refine blk_alloc ?_ _)); refine blk_put (cs := #[.slice Ao34 t861.length co34, .slice Ao36 t864.length co36, .int .i64 x855002_1, .int .i64 x855003_1, .int .i64 x855004_1, .slice Ao32 x855005_1.length co32]) ?_ 2 _ rfl; (with_reducible repeat (first | refine blk_drewN ?_ _ | refine blk_drew ?_ | refine blk_alloc ?_ _)); refine blk_put (cs := #[.slice Ao34 t861.length co34, .slice Ao31 x855001_1.length co31, .int .i64 x855002_1, .int .i64 x855003_1, .int .i64 x855004_1, .slice Ao32 x855005_1.length co32]) ?_ 1 _ rfl; (with_reducible repeat (first | refine blk_drewN ?_ _ | refine blk_drew ?_ | refine blk_alloc ?_ _)); refine blk_put (cs := #[.slice Ao30 x855000_1.length co30, .slice Ao31 x855001_1.length co31, .int .i64 x855002_1, .int .i64 x855003_1, .int .i64 x855004_1, .slice Ao32 x855005_1.length co32]) ?_ 0 _ rfl; (with_reducible repeat (first | refine blk_drewN ?_ _ | refine blk_drew ?_ | refine blk_alloc ?_ _)); exact BK854.out⟩, ⟨TB⟩⟩
          · replace c23 := Bool.eq_false_iff.mpr c23
            subst c23
            replace H := ifF H
            have H' := aM H
            clear H
            have hnb43 := NB840_841.out
            have hnc43 := NB841_840.out
            have hnb44 := NB840_854.out
            have hnc44 := NB854_840.out
            obtain ⟨hcz45_0, hcz45_1, hcz45_2, hcz45_3, hcz45_4, hcz45_5⟩ := cz6 BK840.out
            obtain ⟨hfz45_0, hfz45_1, hfz45_2, hfz45_3, hfz45_4, hfz45_5⟩ := fz6 BK840.out
            go_wp2_with (first | ((with_reducible refine gate_callee (f := 85) rfl ?_); refine gL (some 22) Try.func85 #[.int .i64 a1, .int .i64 x6_1] ?_; (with_reducible refine (spec_InSet.calls a1 x6_1 false _ A22.out).mono ?_); rintro e w' ⟨rfl, ⟨nd, rfl⟩⟩; refine ⟨_, rfl, ?_⟩))
            go_roundg k1
            case measure => have := HK1.out; omega
            case rel => exact ⟨(wrap64 (x6_1 + 1)), (x855000_1), (x855001_1), (x855002_1), (x855003_1), (x855004_1), (x855005_1), (u855000), (u855001), (u855005), (by first | rfl | (simp; done) | (simp [*]; done)), H', ⟨by have := HK1.out; omega⟩, ⟨by have X_ := HO_855000.out; exact TR⟩, ⟨by have X_ := HO_855001.out; exact TR⟩, ⟨by have X_ := HO_855005.out; exact TS⟩, ⟨TK⟩, ⟨TK⟩, ⟨TK⟩, ⟨TB⟩⟩
        · rw [if_neg c21] at H
          have c21b0 : decide (x6_1 < (l0_5.length : Int)) = false := decide_eq_false c21
          clear c21
          obtain ⟨y856, hy856⟩ : ∃ y_ : List (S55), y_ = (([] : List (S55))) := ⟨_, rfl⟩
          rw [← hy856] at H
          have Ny856 := aM hy856
          clear hy856
          simp only [Option.some.injEq, Prod.mk.injEq] at H
          obtain ⟨rfl, rfl, rfl, rfl, rfl, rfl⟩ := H
          have hnb46 := NB840_841.out
          have hnc46 := NB841_840.out
          have hnb47 := NB840_854.out
          have hnc47 := NB854_840.out
          obtain ⟨hcz48_0, hcz48_1, hcz48_2, hcz48_3, hcz48_4, hcz48_5⟩ := cz6 BK840.out
          obtain ⟨hfz48_0, hfz48_1, hfz48_2, hfz48_3, hfz48_4, hfz48_5⟩ := fz6 BK840.out
          go_wp2_with (first | ((with_reducible refine gate_dst (N := 30) rfl ?_); refine Kd.S_lit k55 _ 55 ?hg (N := 30) ?hd (xs := ([] : List (S55))) (inner := []) (ok := fun _ => True) (okp := fun _ => True) ?hr ?hp (fun _ hk => hk) trivial (Below.refl _ _) (Nat.le_refl _) (by simp) ?_; (case hd => rfl); (case hg => rfl); (case hr => first | (go_simp; done) | (go_simp; rfl)); (case hp => exact (Reps.none _ _)); intro v857 w49 ho50 hb hg_ hnew_; clear hg_ hnew_; (first | rw [← Ny856.out] at ho50 | (simp only [Int.reduceToNat] at ho50; rw [← Ny856.out] at ho50)); have HO858 := aM (Kd.S_lower (Kd.S_new' (Kd.S_new' (Kd.S_new' ho50 (Kd.R_lt (by have X_ := HO_855000.out; exact TR))) (Kd.R_lt (by have X_ := HO_855001.out; exact TR))) (Kd.S_lt (by have X_ := HO_855005.out; exact TS))) (below_size TB)); replace HO_855000 := aM (Kd.R_below (by have X_ := HO_855000.out; exact TR) hb); replace HO_855001 := aM (Kd.R_below (by have X_ := HO_855001.out; exact TR) hb); replace HO_855005 := aM (Kd.S_elder' (by have X_ := HO_855005.out; exact TS) (Kd.S_base ho50) hb); replace BK840 := aM (blk_below (g := gb840) (o := .cells #[.slice A0_0 l0_0.length c0_0, .slice A0_1 l0_1.length c0_1, .int .i64 a0_2, .int .i64 a0_3, .int .i64 a0_4, .slice A0_5 l0_5.length c0_5] 33 (0, 0)) TK hb); replace BK841 := aM (blk_below (g := gb841) (o := .cells #[.slice none 0 0, .slice none 0 0, .int .i64 0, .int .i64 0, .int .i64 0, .slice none 0 0] 33 (0, 0)) TK hb); replace BK854 := aM (blk_below (g := gb854) (o := .cells #[u855000, u855001, .int .i64 x855002_1, .int .i64 x855003_1, .int .i64 x855004_1, u855005] 33 (0, 0)) TK hb); replace HB := aM (below_step TB hb); clear hb ho50; obtain ⟨Ao51, co51, eo51⟩ := Kd.S_slice HO858.out; subst eo51; have hnb52 := NB854_841.out; have hnc52 := NB841_854.out; obtain ⟨hcz53_0, hcz53_1, hcz53_2, hcz53_3, hcz53_4, hcz53_5⟩ := cz6 BK854.out; obtain ⟨hfz53_0, hfz53_1, hfz53_2, hfz53_3, hfz53_4, hfz53_5⟩ := fz6 BK854.out; obtain ⟨Ao54, co54, eo54⟩ := Kd.R_slice HO_855000.out; subst eo54; obtain ⟨hcz55_0, hcz55_1, hcz55_2, hcz55_3, hcz55_4, hcz55_5⟩ := cz6 BK841.out; obtain ⟨hfz55_0, hfz55_1, hfz55_2, hfz55_3, hfz55_4, hfz55_5⟩ := fz6 BK841.out; obtain ⟨Ao56, co56, eo56⟩ := Kd.R_slice HO_855001.out; subst eo56))
          refine bodyPost_ret (results_cell_row rfl _ _ gb841 33 #[.slice Ao54 x855000_1.length co54, .slice Ao56 x855001_1.length co56, .int .i64 x855002_1, .int .i64 x855003_1, .int .i64 x855004_1, .slice Ao51 y856.length co51] (0, 0) _ rfl (by (with_reducible repeat (first | refine blk_drewN ?_ _ | refine blk_drew ?_ | refine blk_alloc ?_ _)); refine blk_put (cs := #[.slice Ao54 x855000_1.length co54, .slice Ao56 x855001_1.length co56, .int .i64 x855002_1, .int .i64 x855003_1, .int .i64 x855004_1, .slice none 0 0]) ?_ 5 _ rfl; (with_reducible repeat (first | refine blk_drewN ?_ _ | refine blk_drew ?_ | refine blk_alloc ?_ _)); refine blk_put (cs := #[.slice Ao54 x855000_1.length co54, .slice Ao56 x855001_1.length co56, .int .i64 x855002_1, .int .i64 x855003_1, .int .i64 0, .slice none 0 0]) ?_ 4 _ rfl; (with_reducible repeat (first | refine blk_drewN ?_ _ | refine blk_drew ?_ | refine blk_alloc ?_ _)); refine blk_put (cs := #[.slice Ao54 x855000_1.length co54, .slice Ao56 x855001_1.length co56, .int .i64 x855002_1, .int .i64 0, .int .i64 0, .slice none 0 0]) ?_ 3 _ rfl; (with_reducible repeat (first | refine blk_drewN ?_ _ | refine blk_drew ?_ | refine blk_alloc ?_ _)); refine blk_put (cs := #[.slice Ao54 x855000_1.length co54, .slice Ao56 x855001_1.length co56, .int .i64 0, .int .i64 0, .int .i64 0, .slice none 0 0]) ?_ 2 _ rfl; (with_reducible repeat (first | refine blk_drewN ?_ _ | refine blk_drew ?_ | refine blk_alloc ?_ _)); refine blk_put (cs := #[.slice Ao54 x855000_1.length co54, .slice none 0 0, .int .i64 0, .int .i64 0, .int .i64 0, .slice none 0 0]) ?_ 1 _ rfl; (with_reducible repeat (first | refine blk_drewN ?_ _ | refine blk_drew ?_ | refine blk_alloc ?_ _)); refine blk_put (cs := #[.slice none 0 0, .slice none 0 0, .int .i64 0, .int .i64 0, .int .i64 0, .slice none 0 0]) ?_ 0 _ rfl; (with_reducible repeat (first | refine blk_drewN ?_ _ | refine blk_drew ?_ | refine blk_alloc ?_ _)); refine blk_far ?_ NB841_854.out _; (with_reducible repeat (first | refine blk_drewN ?_ _ | refine blk_drew ?_ | refine blk_alloc ?_ _)); exact BK841.out) Try.underlying33 rfl (by kernel_rfl)) rfl ?_
          exact ⟨_, _, _, by first | rfl | (simp [errW_none, errW_some] <;> rfl) | (simp [*, errW_none, errW_some] <;> rfl), by (with_reducible repeat (first | apply Kd.R_alloc | apply Kd.R_drewN | apply Kd.R_drew)); exact Kd.R_mono (Kd.R_far (p := ⟨gb841, 5, none⟩) (Kd.R_far (p := ⟨gb841, 4, none⟩) (Kd.R_far (p := ⟨gb841, 3, none⟩) (Kd.R_far (p := ⟨gb841, 2, none⟩) (Kd.R_far (p := ⟨gb841, 1, none⟩) (Kd.R_far (p := ⟨gb841, 0, none⟩) (Kd.R_far (p := ⟨gb854, 5, none⟩) (Kd.R_types (Kd.R_types HO_855000.out BK854.out (by decide)) BK841.out (by decide)) (fun _ hk => hk.1.2) (.slice Ao51 y856.length co51)) (fun _ hk => hk.2) (.slice Ao54 x855000_1.length co54)) (fun _ hk => hk.2) (.slice Ao56 x855001_1.length co56)) (fun _ hk => hk.2) (.int .i64 x855002_1)) (fun _ hk => hk.2) (.int .i64 x855003_1)) (fun _ hk => hk.2) (.int .i64 x855004_1)) (fun _ hk => hk.2) (.slice Ao51 y856.length co51)) (fun _ hk => hk.1.1), by (with_reducible repeat (first | apply Kd.R_alloc | apply Kd.R_drewN | apply Kd.R_drew)); exact Kd.R_mono (Kd.R_far (p := ⟨gb841, 5, none⟩) (Kd.R_far (p := ⟨gb841, 4, none⟩) (Kd.R_far (p := ⟨gb841, 3, none⟩) (Kd.R_far (p := ⟨gb841, 2, none⟩) (Kd.R_far (p := ⟨gb841, 1, none⟩) (Kd.R_far (p := ⟨gb841, 0, none⟩) (Kd.R_far (p := ⟨gb854, 5, none⟩) (Kd.R_types (Kd.R_types HO_855001.out BK854.out (by decide)) BK841.out (by decide)) (fun _ hk => hk.1.2) (.slice Ao51 y856.length co51)) (fun _ hk => hk.2) (.slice Ao54 x855000_1.length co54)) (fun _ hk => hk.2) (.slice Ao56 x855001_1.length co56)) (fun _ hk => hk.2) (.int .i64 x855002_1)) (fun _ hk => hk.2) (.int .i64 x855003_1)) (fun _ hk => hk.2) (.int .i64 x855004_1)) (fun _ hk => hk.2) (.slice Ao51 y856.length co51)) (fun _ hk => hk.1.1), by (with_reducible repeat (first | apply Kd.S_alloc | apply Kd.S_drewN | apply Kd.S_drew)); exact Kd.S_mono (Kd.S_far (p := ⟨gb841, 5, none⟩) (Kd.S_far (p := ⟨gb841, 4, none⟩) (Kd.S_far (p := ⟨gb841, 3, none⟩) (Kd.S_far (p := ⟨gb841, 2, none⟩) (Kd.S_far (p := ⟨gb841, 1, none⟩) (Kd.S_far (p := ⟨gb841, 0, none⟩) (Kd.S_far (p := ⟨gb854, 5, none⟩) (Kd.S_types (Kd.S_types HO858.out BK854.out (by decide)) BK841.out (by decide)) (fun _ hk => hk.1.2) (.slice Ao51 y856.length co51)) (fun _ hk => hk.2) (.slice Ao54 x855000_1.length co54)) (fun _ hk => hk.2) (.slice Ao56 x855001_1.length co56)) (fun _ hk => hk.2) (.int .i64 x855002_1)) (fun _ hk => hk.2) (.int .i64 x855003_1)) (fun _ hk => hk.2) (.int .i64 x855004_1)) (fun _ hk => hk.2) (.slice Ao51 y856.length co51)) (fun _ hk => ⟨hk.1.1.1.1.2, hk.1.1.1.2⟩), TB⟩
  · replace c19 := Bool.eq_false_iff.mpr c19
    subst c19
    replace H := ifF H
    simp only [Option.some.injEq, Prod.mk.injEq] at H
    obtain ⟨rfl, rfl, rfl, rfl, rfl, rfl⟩ := H
    go_wp2_with (first | ((with_reducible refine gate_callee (f := 27) rfl ?_); refine gL (some 10) Try.func27 #[.agg #[.slice A0_0 l0_0.length c0_0, .slice A0_1 l0_1.length c0_1, .int .i64 a0_2, .int .i64 a0_3, .int .i64 a0_4, .slice A0_5 l0_5.length c0_5]] ?_; (with_reducible refine (spec_DiskOk.calls k _ _ l0_0 _ _ l0_1 a0_2 a0_3 a0_4 _ _ l0_5 false _ ?side1 ?side2 ?side3 ?side4 ?side5 ?side6 A4.out).mono ?_); (case side1 => exact Kd.C_below HR0_0.out TB); (case side2 => exact HC0_0.out); (case side3 => exact Kd.C_below HR0_1.out TB); (case side4 => exact HC0_1.out); (case side5 => exact Kd.C_below HR0_5.out TB); (case side6 => exact HC0_5.out); rintro e w57 ⟨rfl, hb⟩; refine ⟨_, rfl, ?_⟩; replace HO844 := aM (Kd.R_below (by (with_reducible repeat (first | apply Kd.R_alloc | apply Kd.R_drewN | apply Kd.R_drew)); exact (R_off (Kd.R_types HO844.out BK854.out (by decide)) TO)) hb); replace HO847 := aM (Kd.R_below (by (with_reducible repeat (first | apply Kd.R_alloc | apply Kd.R_drewN | apply Kd.R_drew)); exact (R_off (Kd.R_types HO847.out BK854.out (by decide)) TO)) hb); replace HO853 := aM (Kd.S_below (by (with_reducible repeat (first | apply Kd.S_alloc | apply Kd.S_drewN | apply Kd.S_drew)); exact (S_off (Kd.S_types HO853.out BK854.out (by decide)) TO)) hb); replace BK840 := aM (blk_below (g := gb840) (o := .cells #[.slice A0_0 l0_0.length c0_0, .slice A0_1 l0_1.length c0_1, .int .i64 a0_2, .int .i64 a0_3, .int .i64 a0_4, .slice A0_5 l0_5.length c0_5] 33 (0, 0)) (by (with_reducible repeat (first | refine blk_drewN ?_ _ | refine blk_drew ?_ | refine blk_alloc ?_ _)); refine blk_far ?_ NB840_854.out _; (with_reducible repeat (first | refine blk_drewN ?_ _ | refine blk_drew ?_ | refine blk_alloc ?_ _)); refine blk_far ?_ NB840_854.out _; (with_reducible repeat (first | refine blk_drewN ?_ _ | refine blk_drew ?_ | refine blk_alloc ?_ _)); refine blk_far ?_ NB840_854.out _; (with_reducible repeat (first | refine blk_drewN ?_ _ | refine blk_drew ?_ | refine blk_alloc ?_ _)); refine blk_far ?_ NB840_854.out _; (with_reducible repeat (first | refine blk_drewN ?_ _ | refine blk_drew ?_ | refine blk_alloc ?_ _)); refine blk_far ?_ NB840_854.out _; (with_reducible repeat (first | refine blk_drewN ?_ _ | refine blk_drew ?_ | refine blk_alloc ?_ _)); refine blk_far ?_ NB840_854.out _; (with_reducible repeat (first | refine blk_drewN ?_ _ | refine blk_drew ?_ | refine blk_alloc ?_ _)); exact BK840.out) hb); replace BK841 := aM (blk_below (g := gb841) (o := .cells #[.slice none 0 0, .slice none 0 0, .int .i64 0, .int .i64 0, .int .i64 0, .slice none 0 0] 33 (0, 0)) (by (with_reducible repeat (first | refine blk_drewN ?_ _ | refine blk_drew ?_ | refine blk_alloc ?_ _)); refine blk_far ?_ NB841_854.out _; (with_reducible repeat (first | refine blk_drewN ?_ _ | refine blk_drew ?_ | refine blk_alloc ?_ _)); refine blk_far ?_ NB841_854.out _; (with_reducible repeat (first | refine blk_drewN ?_ _ | refine blk_drew ?_ | refine blk_alloc ?_ _)); refine blk_far ?_ NB841_854.out _; (with_reducible repeat (first | refine blk_drewN ?_ _ | refine blk_drew ?_ | refine blk_alloc ?_ _)); refine blk_far ?_ NB841_854.out _; (with_reducible repeat (first | refine blk_drewN ?_ _ | refine blk_drew ?_ | refine blk_alloc ?_ _)); refine blk_far ?_ NB841_854.out _; (with_reducible repeat (first | refine blk_drewN ?_ _ | refine blk_drew ?_ | refine blk_alloc ?_ _)); refine blk_far ?_ NB841_854.out _; (with_reducible repeat (first | refine blk_drewN ?_ _ | refine blk_drew ?_ | refine blk_alloc ?_ _)); exact BK841.out) hb); replace BK854 := aM (blk_below (g := gb854) (o := .cells #[.slice Ao12 t842.length co12, .slice Ao16 t845.length co16, .int .i64 t848, .int .i64 t849, .int .i64 t850, .slice Ao17 t851.length co17] 33 (0, 0)) (by (with_reducible repeat (first | refine blk_drewN ?_ _ | refine blk_drew ?_ | refine blk_alloc ?_ _)); refine blk_put (cs := #[.slice Ao12 t842.length co12, .slice Ao16 t845.length co16, .int .i64 t848, .int .i64 t849, .int .i64 t850, .slice none 0 0]) ?_ 5 _ rfl; (with_reducible repeat (first | refine blk_drewN ?_ _ | refine blk_drew ?_ | refine blk_alloc ?_ _)); refine blk_put (cs := #[.slice Ao12 t842.length co12, .slice Ao16 t845.length co16, .int .i64 t848, .int .i64 t849, .int .i64 0, .slice none 0 0]) ?_ 4 _ rfl; (with_reducible repeat (first | refine blk_drewN ?_ _ | refine blk_drew ?_ | refine blk_alloc ?_ _)); refine blk_put (cs := #[.slice Ao12 t842.length co12, .slice Ao16 t845.length co16, .int .i64 t848, .int .i64 0, .int .i64 0, .slice none 0 0]) ?_ 3 _ rfl; (with_reducible repeat (first | refine blk_drewN ?_ _ | refine blk_drew ?_ | refine blk_alloc ?_ _)); refine blk_put (cs := #[.slice Ao12 t842.length co12, .slice Ao16 t845.length co16, .int .i64 0, .int .i64 0, .int .i64 0, .slice none 0 0]) ?_ 2 _ rfl; (with_reducible repeat (first | refine blk_drewN ?_ _ | refine blk_drew ?_ | refine blk_alloc ?_ _)); refine blk_put (cs := #[.slice Ao12 t842.length co12, .slice none 0 0, .int .i64 0, .int .i64 0, .int .i64 0, .slice none 0 0]) ?_ 1 _ rfl; (with_reducible repeat (first | refine blk_drewN ?_ _ | refine blk_drew ?_ | refine blk_alloc ?_ _)); refine blk_put (cs := #[.slice none 0 0, .slice none 0 0, .int .i64 0, .int .i64 0, .int .i64 0, .slice none 0 0]) ?_ 0 _ rfl; (with_reducible repeat (first | refine blk_drewN ?_ _ | refine blk_drew ?_ | refine blk_alloc ?_ _)); exact BK854.out) hb); replace HB := aM (below_step TB hb); clear hb; have hnb58 := NB854_840.out; have hnc58 := NB840_854.out; have hnb59 := NB854_841.out; have hnc59 := NB841_854.out; obtain ⟨hcz60_0, hcz60_1, hcz60_2, hcz60_3, hcz60_4, hcz60_5⟩ := cz6 BK854.out; obtain ⟨hfz60_0, hfz60_1, hfz60_2, hfz60_3, hfz60_4, hfz60_5⟩ := fz6 BK854.out; have hnb61 := NB841_840.out; have hnc61 := NB840_841.out; obtain ⟨hcz62_0, hcz62_1, hcz62_2, hcz62_3, hcz62_4, hcz62_5⟩ := cz6 BK841.out; obtain ⟨hfz62_0, hfz62_1, hfz62_2, hfz62_3, hfz62_4, hfz62_5⟩ := fz6 BK841.out))
    refine bodyPost_ret (results_cell_row rfl _ _ gb841 33 #[.slice Ao12 t842.length co12, .slice Ao16 t845.length co16, .int .i64 t848, .int .i64 t849, .int .i64 t850, .slice Ao17 t851.length co17] (0, 0) _ rfl (by (with_reducible repeat (first | refine blk_drewN ?_ _ | refine blk_drew ?_ | refine blk_alloc ?_ _)); refine blk_put (cs := #[.slice Ao12 t842.length co12, .slice Ao16 t845.length co16, .int .i64 t848, .int .i64 t849, .int .i64 t850, .slice none 0 0]) ?_ 5 _ rfl; (with_reducible repeat (first | refine blk_drewN ?_ _ | refine blk_drew ?_ | refine blk_alloc ?_ _)); refine blk_put (cs := #[.slice Ao12 t842.length co12, .slice Ao16 t845.length co16, .int .i64 t848, .int .i64 t849, .int .i64 0, .slice none 0 0]) ?_ 4 _ rfl; (with_reducible repeat (first | refine blk_drewN ?_ _ | refine blk_drew ?_ | refine blk_alloc ?_ _)); refine blk_put (cs := #[.slice Ao12 t842.length co12, .slice Ao16 t845.length co16, .int .i64 t848, .int .i64 0, .int .i64 0, .slice none 0 0]) ?_ 3 _ rfl; (with_reducible repeat (first | refine blk_drewN ?_ _ | refine blk_drew ?_ | refine blk_alloc ?_ _)); refine blk_put (cs := #[.slice Ao12 t842.length co12, .slice Ao16 t845.length co16, .int .i64 0, .int .i64 0, .int .i64 0, .slice none 0 0]) ?_ 2 _ rfl; (with_reducible repeat (first | refine blk_drewN ?_ _ | refine blk_drew ?_ | refine blk_alloc ?_ _)); refine blk_put (cs := #[.slice Ao12 t842.length co12, .slice none 0 0, .int .i64 0, .int .i64 0, .int .i64 0, .slice none 0 0]) ?_ 1 _ rfl; (with_reducible repeat (first | refine blk_drewN ?_ _ | refine blk_drew ?_ | refine blk_alloc ?_ _)); refine blk_put (cs := #[.slice none 0 0, .slice none 0 0, .int .i64 0, .int .i64 0, .int .i64 0, .slice none 0 0]) ?_ 0 _ rfl; (with_reducible repeat (first | refine blk_drewN ?_ _ | refine blk_drew ?_ | refine blk_alloc ?_ _)); exact BK841.out) Try.underlying33 rfl (by kernel_rfl)) rfl ?_
    exact ⟨_, _, _, by first | rfl | (simp [errW_none, errW_some] <;> rfl) | (simp [*, errW_none, errW_some] <;> rfl), by (with_reducible repeat (first | apply Kd.R_alloc | apply Kd.R_drewN | apply Kd.R_drew)); exact Kd.R_mono (Kd.R_far (p := ⟨gb841, 5, none⟩) (Kd.R_far (p := ⟨gb841, 4, none⟩) (Kd.R_far (p := ⟨gb841, 3, none⟩) (Kd.R_far (p := ⟨gb841, 2, none⟩) (Kd.R_far (p := ⟨gb841, 1, none⟩) (Kd.R_far (p := ⟨gb841, 0, none⟩) (Kd.R_types HO844.out BK841.out (by decide)) (fun _ hk => hk.2) (.slice Ao12 t842.length co12)) (fun _ hk => hk.2) (.slice Ao16 t845.length co16)) (fun _ hk => hk.2) (.int .i64 t848)) (fun _ hk => hk.2) (.int .i64 t849)) (fun _ hk => hk.2) (.int .i64 t850)) (fun _ hk => hk.2) (.slice Ao17 t851.length co17)) (fun _ hk => hk.1), by (with_reducible repeat (first | apply Kd.R_alloc | apply Kd.R_drewN | apply Kd.R_drew)); exact Kd.R_mono (Kd.R_far (p := ⟨gb841, 5, none⟩) (Kd.R_far (p := ⟨gb841, 4, none⟩) (Kd.R_far (p := ⟨gb841, 3, none⟩) (Kd.R_far (p := ⟨gb841, 2, none⟩) (Kd.R_far (p := ⟨gb841, 1, none⟩) (Kd.R_far (p := ⟨gb841, 0, none⟩) (Kd.R_types HO847.out BK841.out (by decide)) (fun _ hk => hk.2) (.slice Ao12 t842.length co12)) (fun _ hk => hk.2) (.slice Ao16 t845.length co16)) (fun _ hk => hk.2) (.int .i64 t848)) (fun _ hk => hk.2) (.int .i64 t849)) (fun _ hk => hk.2) (.int .i64 t850)) (fun _ hk => hk.2) (.slice Ao17 t851.length co17)) (fun _ hk => hk.1), by (with_reducible repeat (first | apply Kd.S_alloc | apply Kd.S_drewN | apply Kd.S_drew)); exact Kd.S_mono (Kd.S_far (p := ⟨gb841, 5, none⟩) (Kd.S_far (p := ⟨gb841, 4, none⟩) (Kd.S_far (p := ⟨gb841, 3, none⟩) (Kd.S_far (p := ⟨gb841, 2, none⟩) (Kd.S_far (p := ⟨gb841, 1, none⟩) (Kd.S_far (p := ⟨gb841, 0, none⟩) (Kd.S_types HO853.out BK841.out (by decide)) (fun _ hk => hk.2) (.slice Ao12 t842.length co12)) (fun _ hk => hk.2) (.slice Ao16 t845.length co16)) (fun _ hk => hk.2) (.int .i64 t848)) (fun _ hk => hk.2) (.int .i64 t849)) (fun _ hk => hk.2) (.int .i64 t850)) (fun _ hk => hk.2) (.slice Ao17 t851.length co17)) (fun _ hk => ⟨hk.1.1, hk.1.2⟩), TB⟩

end Go.Proofs.Ytogilihkphjjbaa.Q
