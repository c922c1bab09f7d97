/- Functions of the program as plain Lean functions, and that a call of each comes to what its function tells. Written by a program of this seat. -/
import Derived.Test.YtogilihkphjjbaaQ0
import Derived.Test.YtogilihkphjjbaaQ20
import Derived.Test.YtogilihkphjjbaaQ34
import Derived.Test.YtogilihkphjjbaaQ36
namespace Go.Proofs.Ytogilihkphjjbaa.Q
open Go.RowKit Go.Proofs.YtogilihkphjjbaaW.PrintWords Go.Proofs.YtogilihkphjjbaaW.PrintLast Go.Proofs.YtogilihkphjjbaaW.PrintMore
attribute [local go_sem] max2_int min2_int max_two min_two max_three min_three max_four min_four   -- for this text's walks alone
set_option linter.unusedVariables false
set_option linter.unusedSimpArgs false

/-! ### spec_Sure: function 47 -/
def spec_Sure.l0 : Nat → Int → List Int → List Int → Int → Int → Int → List (S55) → List Int → List Int → Int → Int → Int → List (S55) → Option (List Int × List Int × Int × Int × Int × (List (S55)))
  | 0, _, _, _, _, _, _, _, _, _, _, _, _, _ => none
  | k + 1, x4, x806000, x806001, x806002, x806003, x806004, x806005, x820000, x820001, x820002, x820003, x820004, x820005 => if x4 < (x806005.length : Int) then (if 0 ≤ x4 then ((spec_OnePut.f k x820000 x820001 x820002 x820003 x820004 x820005 ((rd_T55 x806005 x4).f0) ((rd_T55 x806005 x4).f1) ((rd_T55 x806005 x4).f2) ((rd_T55 x806005 x4).f3.f0) ((rd_T55 x806005 x4).f3.f1) ((rd_T55 x806005 x4).f3.f2)).bind fun bt822 => (spec_Sure.l0 k (wrap64 (x4 + 1)) x806000 x806001 x806002 x806003 x806004 x806005 bt822.1 bt822.2.1 bt822.2.2.1 bt822.2.2.2.1 bt822.2.2.2.2.1 bt822.2.2.2.2.2)) else (none)) else (some (x820000, x820001, x820002, x820003, x820004, (([] : List (S55)))))
def spec_Sure.f (k : Nat) (l0_0 : List Int) (l0_1 : List Int) (a0_2 : Int) (a0_3 : Int) (a0_4 : Int) (l0_5 : List (S55)) : Option (List Int × List Int × Int × Int × Int × (List (S55))) := (spec_l9Copy.f k l0_0 l0_1 a0_2 a0_3 a0_4 l0_5).bind fun bt807 => ((spec_DiskOk.f k l0_0 l0_1 a0_2 a0_3 a0_4 l0_5).bind fun t820 => (if t820 = true then (spec_Sure.l0 k 0 l0_0 l0_1 a0_2 a0_3 a0_4 l0_5 bt807.1 bt807.2.1 bt807.2.2.1 bt807.2.2.2.1 bt807.2.2.2.2.1 bt807.2.2.2.2.2) else (some (bt807.1, bt807.2.1, bt807.2.2.1, bt807.2.2.2.1, bt807.2.2.2.2.1, bt807.2.2.2.2.2))))
theorem spec_Sure.mono_l : ∀ k, (∀ y0 y1 y2 y3 y4 y5 y6 y7 y8 y9 y10 y11 y12, LeO (spec_Sure.l0 k y0 y1 y2 y3 y4 y5 y6 y7 y8 y9 y10 y11 y12) (spec_Sure.l0 (k + 1) y0 y1 y2 y3 y4 y5 y6 y7 y8 y9 y10 y11 y12))
  | 0 => fun _ _ _ _ _ _ _ _ _ _ _ _ _ r h => by simp [spec_Sure.l0] at h
  | k + 1 => by
    have m0_ := @spec_DiskOk.mono
    have m1_ := @spec_OnePut.mono
    have m2_ := @spec_l9Copy.mono
    have ih0 := spec_Sure.mono_l k
    · intro y0 y1 y2 y3 y4 y5 y6 y7 y8 y9 y10 y11 y12
      unfold spec_Sure.l0
      exact LM
theorem spec_Sure.mono : ∀ a0 a1 a2 a3 a4 a5 k, LeO (spec_Sure.f k a0 a1 a2 a3 a4 a5) (spec_Sure.f (k + 1) a0 a1 a2 a3 a4 a5) := by
  intro a0 a1 a2 a3 a4 a5 k
  have m0_ := @spec_DiskOk.mono
  have m1_ := @spec_OnePut.mono
  have m2_ := @spec_l9Copy.mono
  have ih0 := spec_Sure.mono_l k
  unfold spec_Sure.f
  exact LM
def spec_Sure.T7 : Bool × List (List Nat × List Nat) := (true, [([], []), ([], []), ([1], [1]), ([], []), ([2, 3], [2, 3]), ([4], [4]), ([0, 5], [0, 5]), ([6, 6, 0, 1, 2, 3, 4, 5, 6], [6])])
def spec_Sure.B7 : List Nat := [0, 0, 2, 0, 14, 30, 63, 127]
theorem spec_Sure.tab7 : rtab .any (opsOf Try.f47 7) = spec_Sure.T7 := by kernel_rfl
theorem spec_Sure.bits7 : waitsOk spec_Sure.T7.2 spec_Sure.B7 = true := by kernel_rfl
set_option maxHeartbeats 40000000 in
set_option maxRecDepth 100000 in
theorem spec_Sure.calls (k : Nat) (A0_0 : Option Addr) (c0_0 : Nat) (l0_0 : List Int) (A0_1 : Option Addr) (c0_1 : Nat) (l0_1 : List Int) (a0_2 : Int) (a0_3 : Int) (a0_4 : Int) (A0_5 : Option Addr) (c0_5 : Nat) (l0_5 : List (S55)) (r1 : List Int) (r2 : List Int) (r3 : Int) (r4 : Int) (r5 : Int) (r6 : List (S55)) (w : World) (hr0_0 : Kd.C (Kd.int .u8) w A0_0 l0_0.length l0_0) (hc0_0 : l0_0.length ≤ c0_0) (hr0_1 : Kd.C (Kd.int .u8) w A0_1 l0_1.length l0_1) (hc0_1 : l0_1.length ≤ c0_1) (hr0_5 : Kd.C k55 w A0_5 l0_5.length l0_5) (hc0_5 : l0_5.length ≤ c0_5) (h : spec_Sure.f k l0_0 l0_1 a0_2 a0_3 a0_4 l0_5 = some (r1, r2, r3, r4, r5, r6)) :
    Calls Try.prog 47 #[.agg #[.slice A0_0 l0_0.length c0_0, .slice A0_1 l0_1.length c0_1, .int .i64 a0_2, .int .i64 a0_3, .int .i64 a0_4, .slice A0_5 l0_5.length c0_5]] w fun e w' => ∃ v0_ v1_ v5_ : Value, e = .returned (.agg #[v0_, v1_, .int .i64 r3, .int .i64 r4, .int .i64 r5, v5_]) ∧ Kd.R (Kd.int .u8) 5 w' w.heap.size (fun k_ => some k_ ≠ (v1_ : Value).ownBlock) v0_ r1 ∧ Kd.R (Kd.int .u8) 5 w' w.heap.size (fun k_ => some k_ ≠ (v0_ : Value).ownBlock) v1_ r2 ∧ Kd.S k55 55 w' w.heap.size (fun k_ => some k_ ≠ (v0_ : Value).ownBlock ∧ some k_ ≠ (v1_ : Value).ownBlock) v5_ r6 ∧ Below w.heap.size w w' := by
  have hu33 := Try.underlying33
  have hu55 := Try.underlying55
  have HR0_0 := aM hr0_0
  have HC0_0 := aM hc0_0
  clear hr0_0 hc0_0
  have HR0_1 := aM hr0_1
  have HC0_1 := aM hc0_1
  clear hr0_1 hc0_1
  have HR0_5 := aM hr0_5
  have HC0_5 := aM hc0_5
  clear hr0_5 hc0_5
  have HB := aM (Below.refl w.heap.size w)
  have H := h
  clear h
  unfold spec_Sure.f at H
  replace H := bE H
  obtain ⟨⟨t807, t810, t813, t814, t815, t816⟩, A2, H⟩ := H
  dsimp only at H
  replace H := bE H
  obtain ⟨t820, A3, H⟩ := H
  go_enter Try.func47, Try.ntmps47
  go_wp2_with (first | ((with_reducible refine gate_dst (N := 1) rfl ?_); refine gBx 1 #[.slice A0_0 l0_0.length c0_0, .slice A0_1 l0_1.length c0_1, .int .i64 a0_2, .int .i64 a0_3, .int .i64 a0_4, .slice A0_5 l0_5.length c0_5] 33 ?_; intro gb805 hg w5 hbox hb; have BK805 := aM (hbox); have GW805 := aM ((by rw [hg]; exact (below_size TB) : w.heap.size ≤ gb805)); have GE805 := aM ((by rw [hg]; exact (below_size TB) : w.heap.size ≤ gb805)); replace HB := aM (below_step TB hb); clear hb hbox hg) | ((with_reducible refine gate_dst (N := 2) rfl ?_); refine gBx 2 #[.slice none 0 0, .slice none 0 0, .int .i64 0, .int .i64 0, .int .i64 0, .slice none 0 0] 33 ?_; intro gb806 hg w6 hbox hb; have BK806 := aM (hbox); have GW806 := aM ((by rw [hg]; exact (below_size TB) : w.heap.size ≤ gb806)); have GE806 := aM ((by rw [hg]; exact (below_size TB) : w.heap.size ≤ gb806)); have NB805_806 := aM ((by rw [hg]; exact Nat.ne_of_lt (blk_lt (g := gb805) (o := .cells #[.slice A0_0 l0_0.length c0_0, .slice A0_1 l0_1.length c0_1, .int .i64 a0_2, .int .i64 a0_3, .int .i64 a0_4, .slice A0_5 l0_5.length c0_5] 33 (0, 0)) TK) : gb805 ≠ gb806)); have NB806_805 := aM ((by rw [hg]; exact Nat.ne_of_gt (blk_lt (g := gb805) (o := .cells #[.slice A0_0 l0_0.length c0_0, .slice A0_1 l0_1.length c0_1, .int .i64 a0_2, .int .i64 a0_3, .int .i64 a0_4, .slice A0_5 l0_5.length c0_5] 33 (0, 0)) TK) : gb806 ≠ gb805)); replace BK805 := aM (blk_below (g := gb805) (o := .cells #[.slice A0_0 l0_0.length c0_0, .slice A0_1 l0_1.length c0_1, .int .i64 a0_2, .int .i64 a0_3, .int .i64 a0_4, .slice A0_5 l0_5.length c0_5] 33 (0, 0)) TK hb); replace HB := aM (below_step TB hb); clear hb hbox hg; have hnb7 := NB805_806.out; have hnc7 := NB806_805.out; obtain ⟨hcz8_0, hcz8_1, hcz8_2, hcz8_3, hcz8_4, hcz8_5⟩ := cz6 BK805.out; obtain ⟨hfz8_0, hfz8_1, hfz8_2, hfz8_3, hfz8_4, hfz8_5⟩ := fz6 BK805.out) | ((with_reducible refine gate_callee (f := 76) rfl ?_); refine gL (some 6) Try.func76 #[.agg #[.slice A0_0 l0_0.length c0_0, .slice A0_1 l0_1.length c0_1, .int .i64 a0_2, .int .i64 a0_3, .int .i64 a0_4, .slice A0_5 l0_5.length c0_5]] ?_; (with_reducible refine (spec_l9Copy.calls k _ _ l0_0 _ _ l0_1 a0_2 a0_3 a0_4 _ _ l0_5 t807 t810 t813 t814 t815 t816 _ ?side1 ?side2 ?side3 ?side4 ?side5 ?side6 A2.out).mono ?_); (case side1 => have X_ := (Kd.C_below HR0_0.out HB.out); exact TC); (case side2 => exact HC0_0.out); (case side3 => have X_ := (Kd.C_below HR0_1.out HB.out); exact TC); (case side4 => exact HC0_1.out); (case side5 => have X_ := (Kd.C_below HR0_5.out HB.out); exact TC); (case side6 => exact HC0_5.out); rintro e w9 ⟨v808, v811, v817, rfl, ho0, ho1, ho2, hb⟩; refine ⟨_, rfl, ?_⟩; have HO809 := aM (Kd.R_lower ho0 (below_size TB)); have HO812 := aM (Kd.R_lower ho1 (below_size TB)); have HO818 := aM (Kd.S_lower ho2 (below_size TB)); replace BK805 := aM (blk_below (g := gb805) (o := .cells #[.slice A0_0 l0_0.length c0_0, .slice A0_1 l0_1.length c0_1, .int .i64 a0_2, .int .i64 a0_3, .int .i64 a0_4, .slice A0_5 l0_5.length c0_5] 33 (0, 0)) TK hb); replace BK806 := aM (blk_below (g := gb806) (o := .cells #[.slice none 0 0, .slice none 0 0, .int .i64 0, .int .i64 0, .int .i64 0, .slice none 0 0] 33 (0, 0)) TK hb); replace HB := aM (below_step TB hb); clear ho0 ho1 ho2 hb) | ((with_reducible refine gate_dst (N := 3) rfl ?_); refine gBx 3 #[.slice none 0 0, .slice none 0 0, .int .i64 0, .int .i64 0, .int .i64 0, .slice none 0 0] 33 ?_; intro gb819 hg w10 hbox hb; have BK819 := aM (hbox); have GW819 := aM ((by rw [hg]; exact (below_size TB) : w.heap.size ≤ gb819)); have GE819 := aM ((by rw [hg]; exact (below_size TB) : w.heap.size ≤ gb819)); have NB805_819 := aM ((by rw [hg]; exact Nat.ne_of_lt (blk_lt (g := gb805) (o := .cells #[.slice A0_0 l0_0.length c0_0, .slice A0_1 l0_1.length c0_1, .int .i64 a0_2, .int .i64 a0_3, .int .i64 a0_4, .slice A0_5 l0_5.length c0_5] 33 (0, 0)) TK) : gb805 ≠ gb819)); have NB819_805 := aM ((by rw [hg]; exact Nat.ne_of_gt (blk_lt (g := gb805) (o := .cells #[.slice A0_0 l0_0.length c0_0, .slice A0_1 l0_1.length c0_1, .int .i64 a0_2, .int .i64 a0_3, .int .i64 a0_4, .slice A0_5 l0_5.length c0_5] 33 (0, 0)) TK) : gb819 ≠ gb805)); have NB806_819 := aM ((by rw [hg]; exact Nat.ne_of_lt (blk_lt (g := gb806) (o := .cells #[.slice none 0 0, .slice none 0 0, .int .i64 0, .int .i64 0, .int .i64 0, .slice none 0 0] 33 (0, 0)) TK) : gb806 ≠ gb819)); have NB819_806 := aM ((by rw [hg]; exact Nat.ne_of_gt (blk_lt (g := gb806) (o := .cells #[.slice none 0 0, .slice none 0 0, .int .i64 0, .int .i64 0, .int .i64 0, .slice none 0 0] 33 (0, 0)) TK) : gb819 ≠ gb806)); replace HO809 := aM (Kd.R_below (by have X_ := HO809.out; exact TR) hb); replace HO812 := aM (Kd.R_below (by have X_ := HO812.out; exact TR) hb); replace HO818 := aM (Kd.S_below (by have X_ := HO818.out; exact TS) hb); replace BK805 := aM (blk_below (g := gb805) (o := .cells #[.slice A0_0 l0_0.length c0_0, .slice A0_1 l0_1.length c0_1, .int .i64 a0_2, .int .i64 a0_3, .int .i64 a0_4, .slice A0_5 l0_5.length c0_5] 33 (0, 0)) TK hb); replace BK806 := aM (blk_below (g := gb806) (o := .cells #[.slice none 0 0, .slice none 0 0, .int .i64 0, .int .i64 0, .int .i64 0, .slice none 0 0] 33 (0, 0)) TK hb); replace HB := aM (below_step TB hb); clear hb hbox hg; obtain ⟨Ao11, co11, eo11⟩ := Kd.R_slice HO809.out; subst eo11; have hnb12 := NB819_805.out; have hnc12 := NB805_819.out; have hnb13 := NB819_806.out; have hnc13 := NB806_819.out; obtain ⟨hcz14_0, hcz14_1, hcz14_2, hcz14_3, hcz14_4, hcz14_5⟩ := cz6 BK819.out; obtain ⟨hfz14_0, hfz14_1, hfz14_2, hfz14_3, hfz14_4, hfz14_5⟩ := fz6 BK819.out; obtain ⟨Ao15, co15, eo15⟩ := Kd.R_slice HO812.out; subst eo15; obtain ⟨Ao16, co16, eo16⟩ := Kd.S_slice HO818.out; subst eo16; obtain ⟨hcz17_0, hcz17_1, hcz17_2, hcz17_3, hcz17_4, hcz17_5⟩ := cz6 BK805.out; obtain ⟨hfz17_0, hfz17_1, hfz17_2, hfz17_3, hfz17_4, hfz17_5⟩ := fz6 BK805.out) | ((with_reducible refine gate_callee (f := 27) rfl ?_); (with_reducible refine gate_dst (N := 8) rfl ?_); generalize hG_ : wpList _ _ _ _ _ _ = G_))
  subst hG_
  by_cases c18 : t820 = true
  · subst c18
    replace H := ifT H
    have H' := aM H
    clear H
    go_wp2_with (first | ((with_reducible refine gate_callee (f := 27) rfl ?_); refine gL (some 8) Try.func27 #[.agg #[.slice A0_0 l0_0.length c0_0, .slice A0_1 l0_1.length c0_1, .int .i64 a0_2, .int .i64 a0_3, .int .i64 a0_4, .slice A0_5 l0_5.length c0_5]] ?_; (with_reducible refine (spec_DiskOk.calls k _ _ l0_0 _ _ l0_1 a0_2 a0_3 a0_4 _ _ l0_5 true _ ?side1 ?side2 ?side3 ?side4 ?side5 ?side6 A3.out).mono ?_); (case side1 => exact Kd.C_below HR0_0.out TB); (case side2 => exact HC0_0.out); (case side3 => exact Kd.C_below HR0_1.out TB); (case side4 => exact HC0_1.out); (case side5 => exact Kd.C_below HR0_5.out TB); (case side6 => exact HC0_5.out); rintro e w19 ⟨rfl, hb⟩; refine ⟨_, rfl, ?_⟩; replace HO809 := aM (Kd.R_below (by (with_reducible repeat (first | apply Kd.R_alloc | apply Kd.R_drewN | apply Kd.R_drew)); exact (R_off (Kd.R_types HO809.out BK819.out (by decide)) TO)) hb); replace HO812 := aM (Kd.R_below (by (with_reducible repeat (first | apply Kd.R_alloc | apply Kd.R_drewN | apply Kd.R_drew)); exact (R_off (Kd.R_types HO812.out BK819.out (by decide)) TO)) hb); replace HO818 := aM (Kd.S_below (by (with_reducible repeat (first | apply Kd.S_alloc | apply Kd.S_drewN | apply Kd.S_drew)); exact (S_off (Kd.S_types HO818.out BK819.out (by decide)) TO)) hb); replace BK805 := aM (blk_below (g := gb805) (o := .cells #[.slice A0_0 l0_0.length c0_0, .slice A0_1 l0_1.length c0_1, .int .i64 a0_2, .int .i64 a0_3, .int .i64 a0_4, .slice A0_5 l0_5.length c0_5] 33 (0, 0)) (by (with_reducible repeat (first | refine blk_drewN ?_ _ | refine blk_drew ?_ | refine blk_alloc ?_ _)); refine blk_far ?_ NB805_819.out _; (with_reducible repeat (first | refine blk_drewN ?_ _ | refine blk_drew ?_ | refine blk_alloc ?_ _)); refine blk_far ?_ NB805_819.out _; (with_reducible repeat (first | refine blk_drewN ?_ _ | refine blk_drew ?_ | refine blk_alloc ?_ _)); refine blk_far ?_ NB805_819.out _; (with_reducible repeat (first | refine blk_drewN ?_ _ | refine blk_drew ?_ | refine blk_alloc ?_ _)); refine blk_far ?_ NB805_819.out _; (with_reducible repeat (first | refine blk_drewN ?_ _ | refine blk_drew ?_ | refine blk_alloc ?_ _)); refine blk_far ?_ NB805_819.out _; (with_reducible repeat (first | refine blk_drewN ?_ _ | refine blk_drew ?_ | refine blk_alloc ?_ _)); refine blk_far ?_ NB805_819.out _; (with_reducible repeat (first | refine blk_drewN ?_ _ | refine blk_drew ?_ | refine blk_alloc ?_ _)); exact BK805.out) hb); replace BK806 := aM (blk_below (g := gb806) (o := .cells #[.slice none 0 0, .slice none 0 0, .int .i64 0, .int .i64 0, .int .i64 0, .slice none 0 0] 33 (0, 0)) (by (with_reducible repeat (first | refine blk_drewN ?_ _ | refine blk_drew ?_ | refine blk_alloc ?_ _)); refine blk_far ?_ NB806_819.out _; (with_reducible repeat (first | refine blk_drewN ?_ _ | refine blk_drew ?_ | refine blk_alloc ?_ _)); refine blk_far ?_ NB806_819.out _; (with_reducible repeat (first | refine blk_drewN ?_ _ | refine blk_drew ?_ | refine blk_alloc ?_ _)); refine blk_far ?_ NB806_819.out _; (with_reducible repeat (first | refine blk_drewN ?_ _ | refine blk_drew ?_ | refine blk_alloc ?_ _)); refine blk_far ?_ NB806_819.out _; (with_reducible repeat (first | refine blk_drewN ?_ _ | refine blk_drew ?_ | refine blk_alloc ?_ _)); refine blk_far ?_ NB806_819.out _; (with_reducible repeat (first | refine blk_drewN ?_ _ | refine blk_drew ?_ | refine blk_alloc ?_ _)); refine blk_far ?_ NB806_819.out _; (with_reducible repeat (first | refine blk_drewN ?_ _ | refine blk_drew ?_ | refine blk_alloc ?_ _)); exact BK806.out) hb); replace BK819 := aM (blk_below (g := gb819) (o := .cells #[.slice Ao11 t807.length co11, .slice Ao15 t810.length co15, .int .i64 t813, .int .i64 t814, .int .i64 t815, .slice Ao16 t816.length co16] 33 (0, 0)) (by (with_reducible repeat (first | refine blk_drewN ?_ _ | refine blk_drew ?_ | refine blk_alloc ?_ _)); refine blk_put (cs := #[.slice Ao11 t807.length co11, .slice Ao15 t810.length co15, .int .i64 t813, .int .i64 t814, .int .i64 t815, .slice none 0 0]) ?_ 5 _ rfl; (with_reducible repeat (first | refine blk_drewN ?_ _ | refine blk_drew ?_ | refine blk_alloc ?_ _)); refine blk_put (cs := #[.slice Ao11 t807.length co11, .slice Ao15 t810.length co15, .int .i64 t813, .int .i64 t814, .int .i64 0, .slice none 0 0]) ?_ 4 _ rfl; (with_reducible repeat (first | refine blk_drewN ?_ _ | refine blk_drew ?_ | refine blk_alloc ?_ _)); refine blk_put (cs := #[.slice Ao11 t807.length co11, .slice Ao15 t810.length co15, .int .i64 t813, .int .i64 0, .int .i64 0, .slice none 0 0]) ?_ 3 _ rfl; (with_reducible repeat (first | refine blk_drewN ?_ _ | refine blk_drew ?_ | refine blk_alloc ?_ _)); refine blk_put (cs := #[.slice Ao11 t807.length co11, .slice Ao15 t810.length co15, .int .i64 0, .int .i64 0, .int .i64 0, .slice none 0 0]) ?_ 2 _ rfl; (with_reducible repeat (first | refine blk_drewN ?_ _ | refine blk_drew ?_ | refine blk_alloc ?_ _)); refine blk_put (cs := #[.slice Ao11 t807.length co11, .slice none 0 0, .int .i64 0, .int .i64 0, .int .i64 0, .slice none 0 0]) ?_ 1 _ rfl; (with_reducible repeat (first | refine blk_drewN ?_ _ | refine blk_drew ?_ | refine blk_alloc ?_ _)); refine blk_put (cs := #[.slice none 0 0, .slice none 0 0, .int .i64 0, .int .i64 0, .int .i64 0, .slice none 0 0]) ?_ 0 _ rfl; (with_reducible repeat (first | refine blk_drewN ?_ _ | refine blk_drew ?_ | refine blk_alloc ?_ _)); exact BK819.out) hb); replace HB := aM (below_step TB hb); clear hb))
    go_loopg [4] k (fun kq v4 w' => ∃ (x4_1 : Int) (x820000_1 : List Int) (x820001_1 : List Int) (x820002_1 : Int) (x820003_1 : Int) (x820004_1 : Int) (x820005_1 : List (S55)) (u820000 : Value) (u820001 : Value) (u820005 : Value), v4 = .int .i64 x4_1 ∧ Aside0 (spec_Sure.l0 kq x4_1 l0_0 l0_1 a0_2 a0_3 a0_4 l0_5 x820000_1 x820001_1 x820002_1 x820003_1 x820004_1 x820005_1 = some (r1, r2, r3, r4, r5, r6)) ∧ Aside0 (kq ≤ k) ∧ Aside0 (Kd.R (Kd.int .u8) 5 w' w.heap.size (fun k_ => some k_ ≠ (u820001 : Value).ownBlock) u820000 x820000_1) ∧ Aside0 (Kd.R (Kd.int .u8) 5 w' w.heap.size (fun k_ => some k_ ≠ (u820000 : Value).ownBlock) u820001 x820001_1) ∧ Aside0 (Kd.S k55 55 w' w.heap.size (fun k_ => some k_ ≠ (u820000 : Value).ownBlock ∧ some k_ ≠ (u820001 : Value).ownBlock) u820005 x820005_1) ∧ Aside0 (w'.heap[gb805]? = some (.cells #[(.slice A0_0 l0_0.length c0_0), (.slice A0_1 l0_1.length c0_1), .int .i64 a0_2, .int .i64 a0_3, .int .i64 a0_4, (.slice A0_5 l0_5.length c0_5)] 33 (0, 0))) ∧ Aside0 (w'.heap[gb806]? = some (.cells #[(.slice none 0 0), (.slice none 0 0), .int .i64 0, .int .i64 0, .int .i64 0, (.slice none 0 0)] 33 (0, 0))) ∧ Aside0 (w'.heap[gb819]? = some (.cells #[u820000, u820001, .int .i64 x820002_1, .int .i64 x820003_1, .int .i64 x820004_1, u820005] 33 (0, 0))) ∧ Aside0 (Below w.heap.size w w'))
    case atStart => exact ⟨(0), (t807), (t810), (t813), (t814), (t815), (t816), (.slice Ao11 t807.length co11), (.slice Ao15 t810.length co15), (.slice Ao16 t816.length co16), (by first | rfl | (simp; done) | (simp [*]; done)), H', ⟨Nat.le_refl _⟩, ⟨by have X_ := HO809.out; exact TR⟩, ⟨by have X_ := HO812.out; exact TR⟩, ⟨by have X_ := HO818.out; exact TS⟩, ⟨TK⟩, ⟨TK⟩, ⟨TK⟩, ⟨TB⟩⟩
    case round =>
      clear H'
      try clear c1
      try clear c2
      try clear p2
      try clear c4
      try clear c7
      try clear c12
      try clear c13
      try clear c18
      try clear hcz14_0
      try clear hcz14_1
      try clear hcz14_2
      try clear hcz14_3
      try clear hcz14_4
      try clear hcz14_5
      try clear hcz17_0
      try clear hcz17_1
      try clear hcz17_2
      try clear hcz17_3
      try clear hcz17_4
      try clear hcz17_5
      try clear hcz8_0
      try clear hcz8_1
      try clear hcz8_2
      try clear hcz8_3
      try clear hcz8_4
      try clear hcz8_5
      try clear hfz14_0
      try clear hfz14_1
      try clear hfz14_2
      try clear hfz14_3
      try clear hfz14_4
      try clear hfz14_5
      try clear hfz17_0
      try clear hfz17_1
      try clear hfz17_2
      try clear hfz17_3
      try clear hfz17_4
      try clear hfz17_5
      try clear hfz8_0
      try clear hfz8_1
      try clear hfz8_2
      try clear hfz8_3
      try clear hfz8_4
      try clear hfz8_5
      obtain ⟨x4_1, x820000_1, x820001_1, x820002_1, x820003_1, x820004_1, x820005_1, u820000, u820001, u820005, rfl, HA, HK1, HO_820000, HO_820001, HO_820005, BK805, BK806, BK819, HB⟩ := hrel
      cases gk with
      | zero => exact absurd HA.out (by simp [spec_Sure.l0])
      | succ k1 =>
        have H := HA.out
        clear HA
        simp only [spec_Sure.l0] at H
        by_cases c20 : x4_1 < (l0_5.length : Int)
        · rw [if_pos c20] at H
          have c20b0 : decide (x4_1 < (l0_5.length : Int)) = true := decide_eq_true c20
          clear c20
          replace H := ifN H
          obtain ⟨c21, H⟩ := H
          have c21b0 : decide (0 ≤ x4_1) = true := decide_eq_true c21
          clear c21
          replace H := bE H
          obtain ⟨⟨t822, t825, t828, t829, t830, t831⟩, A22, H⟩ := H
          dsimp only at H
          have H' := aM H
          clear H
          have hnb23 := NB805_806.out
          have hnc23 := NB806_805.out
          have hnb24 := NB805_819.out
          have hnc24 := NB819_805.out
          obtain ⟨hcz25_0, hcz25_1, hcz25_2, hcz25_3, hcz25_4, hcz25_5⟩ := cz6 BK805.out
          obtain ⟨hfz25_0, hfz25_1, hfz25_2, hfz25_3, hfz25_4, hfz25_5⟩ := fz6 BK805.out
          try go_wp2
          (try (rw [drewN_self wr]; generalize hq_ : World.drewN wr _ = wr; have n0_ : Aside0 (Kd.R (Kd.int .u8) 5 wr w.heap.size (fun k_ => some k_ ≠ (u820001 : Value).ownBlock) u820000 x820000_1) := ⟨by rw [← hq_]; exact (by have X_ := HO_820000.out; exact TR)⟩; have n1_ : Aside0 (Kd.R (Kd.int .u8) 5 wr w.heap.size (fun k_ => some k_ ≠ (u820000 : Value).ownBlock) u820001 x820001_1) := ⟨by rw [← hq_]; exact (by have X_ := HO_820001.out; exact TR)⟩; have n2_ : Aside0 (Kd.S k55 55 wr w.heap.size (fun k_ => (some k_ ≠ (u820000 : Value).ownBlock ∧ some k_ ≠ (u820001 : Value).ownBlock)) u820005 x820005_1) := ⟨by rw [← hq_]; exact (by have X_ := HO_820005.out; exact TS)⟩; have n3_ : Aside0 (wr.heap[gb805]? = some (.cells #[.slice A0_0 l0_0.length c0_0, .slice A0_1 l0_1.length c0_1, .int .i64 a0_2, .int .i64 a0_3, .int .i64 a0_4, .slice A0_5 l0_5.length c0_5] 33 (0, 0))) := ⟨by rw [← hq_]; exact TK⟩; have n4_ : Aside0 (wr.heap[gb806]? = some (.cells #[.slice none 0 0, .slice none 0 0, .int .i64 0, .int .i64 0, .int .i64 0, .slice none 0 0] 33 (0, 0))) := ⟨by rw [← hq_]; exact TK⟩; have n5_ : Aside0 (wr.heap[gb819]? = some (.cells #[u820000, u820001, .int .i64 x820002_1, .int .i64 x820003_1, .int .i64 x820004_1, u820005] 33 (0, 0))) := ⟨by rw [← hq_]; exact TK⟩; have n6_ : Aside0 (Below w.heap.size w wr) := ⟨by rw [← hq_]; exact TB⟩; clear HO_820000 HO_820001 HO_820005 BK805 BK806 BK819 HB hq_; have HO_820000 := n0_; have HO_820001 := n1_; have HO_820005 := n2_; have BK805 := n3_; have BK806 := n4_; have BK819 := n5_; have HB := n6_; clear n0_ n1_ n2_ n3_ n4_ n5_ n6_))
          replace HO_820000 := aM (Kd.R_drew HO_820000.out)
          replace HO_820001 := aM (Kd.R_drew HO_820001.out)
          replace HO_820005 := aM (Kd.S_drew HO_820005.out)
          replace BK805 := aM (blk_drew BK805.out)
          replace BK806 := aM (blk_drew BK806.out)
          replace BK819 := aM (blk_drew BK819.out)
          replace HB := aM (below_drew1 HB.out)
          have p821 : 0 ≤ (x4_1 : Int) := DT
          have q821 : x4_1 < (l0_5.length : Int) := DT
          obtain ⟨ad821, A821_2, c821_2, e821, hx821_0, hx821_1, hx821_2, hx821_3, hx821_4, hx821_5, hl821_2, hi821_2⟩ := at_T55 HR0_5.out x4_1 p821 q821
          have hw821_5 := hx821_5
          have hw821_4 := hx821_4
          have hw821_3 := hx821_3
          have hw821_2 := hx821_2
          have hw821_1 := hx821_1
          have hw821_0 := hx821_0
          cases e821
          replace hx821_0 := (HB.out.cell (World.block_lt_of_cell? w _ hx821_0)).trans hx821_0
          replace hx821_1 := (HB.out.cell (World.block_lt_of_cell? w _ hx821_1)).trans hx821_1
          replace hx821_2 := (HB.out.cell (World.block_lt_of_cell? w _ hx821_2)).trans hx821_2
          replace hx821_3 := (HB.out.cell (World.block_lt_of_cell? w _ hx821_3)).trans hx821_3
          replace hx821_4 := (HB.out.cell (World.block_lt_of_cell? w _ hx821_4)).trans hx821_4
          replace hx821_5 := (HB.out.cell (World.block_lt_of_cell? w _ hx821_5)).trans hx821_5
          have HR821_2 := aM hi821_2
          have HC821_2 := aM hl821_2
          clear hi821_2 hl821_2
          replace p821 := eq_true p821
          replace q821 := eq_true q821
          obtain ⟨Ao27, co27, eo27⟩ := Kd.R_slice HO_820000.out
          (first | subst eo27 | (injection eo27 with f1_ f2_ f3_; have f4_ := f1_.symm; have f5_ := f3_.symm; clear f1_ f2_ f3_; subst f4_; subst f5_))
          obtain ⟨Ao28, co28, eo28⟩ := Kd.R_slice HO_820001.out
          (first | subst eo28 | (injection eo28 with f1_ f2_ f3_; have f4_ := f1_.symm; have f5_ := f3_.symm; clear f1_ f2_ f3_; subst f4_; subst f5_))
          obtain ⟨Ao29, co29, eo29⟩ := Kd.S_slice HO_820005.out
          (first | subst eo29 | (injection eo29 with f1_ f2_ f3_; have f4_ := f1_.symm; have f5_ := f3_.symm; clear f1_ f2_ f3_; subst f4_; subst f5_))
          refine start_ (n := 8) (S := fun w' => w'.cell? ⟨gb819, 0, none⟩ = some (.slice Ao27 x820000_1.length co27) ∧ w'.cell? ⟨gb819, 1, none⟩ = some (.slice Ao28 x820001_1.length co28) ∧ w'.cell? ⟨gb819, 2, none⟩ = some (.int .i64 x820002_1) ∧ w'.cell? ⟨gb819, 3, none⟩ = some (.int .i64 x820003_1) ∧ w'.cell? ⟨gb819, 4, none⟩ = some (.int .i64 x820004_1) ∧ w'.cell? ⟨gb819, 5, none⟩ = some (.slice Ao29 x820005_1.length co29) ∧ w'.cell? ⟨gb805, 0, none⟩ = some (.slice A0_0 l0_0.length c0_0) ∧ w'.cell? ⟨gb805, 1, none⟩ = some (.slice A0_1 l0_1.length c0_1) ∧ w'.cell? ⟨gb805, 2, none⟩ = some (.int .i64 a0_2) ∧ w'.cell? ⟨gb805, 3, none⟩ = some (.int .i64 a0_3) ∧ w'.cell? ⟨gb805, 4, none⟩ = some (.int .i64 a0_4) ∧ w'.cell? ⟨gb805, 5, none⟩ = some (.slice (some ad821) l0_5.length c0_5) ∧ w'.cell? (ad821.add ((x4_1).toNat * 6)) = some (.int .i64 ((rd_T55 l0_5 x4_1).f0)) ∧ w'.cell? ⟨(ad821.add ((x4_1).toNat * 6)).block, (ad821.add ((x4_1).toNat * 6)).off + 1, none⟩ = some (.int .i64 ((rd_T55 l0_5 x4_1).f1)) ∧ w'.cell? ⟨(ad821.add ((x4_1).toNat * 6)).block, (ad821.add ((x4_1).toNat * 6)).off + 2, none⟩ = some (.slice A821_2 ((rd_T55 l0_5 x4_1).f2).length c821_2) ∧ w'.cell? ⟨(ad821.add ((x4_1).toNat * 6)).block, (ad821.add ((x4_1).toNat * 6)).off + 3, none⟩ = some (.int .i64 ((rd_T55 l0_5 x4_1).f3.f0)) ∧ w'.cell? ⟨(ad821.add ((x4_1).toNat * 6)).block, (ad821.add ((x4_1).toNat * 6)).off + 4, none⟩ = some (.int .i64 ((rd_T55 l0_5 x4_1).f3.f1)) ∧ w'.cell? ⟨(ad821.add ((x4_1).toNat * 6)).block, (ad821.add ((x4_1).toNat * 6)).off + 5, none⟩ = some (.int .i64 ((rd_T55 l0_5 x4_1).f3.f2))) (ds := [7]) (Array.replicate 8 false) (by kernel_rfl) rfl rfl ⟨(blk_cell BK819.out 0).trans rfl, (blk_cell BK819.out 1).trans rfl, (blk_cell BK819.out 2).trans rfl, (blk_cell BK819.out 3).trans rfl, (blk_cell BK819.out 4).trans rfl, (blk_cell BK819.out 5).trans rfl, (blk_cell BK805.out 0).trans rfl, (blk_cell BK805.out 1).trans rfl, (blk_cell BK805.out 2).trans rfl, (blk_cell BK805.out 3).trans rfl, (blk_cell BK805.out 4).trans rfl, (blk_cell BK805.out 5).trans rfl, ((HB.out.cell (World.block_lt_of_cell? w _ hw821_0)).trans hw821_0), ((HB.out.cell (World.block_lt_of_cell? w _ hw821_1)).trans hw821_1), ((HB.out.cell (World.block_lt_of_cell? w _ hw821_2)).trans hw821_2), ((HB.out.cell (World.block_lt_of_cell? w _ hw821_3)).trans hw821_3), ((HB.out.cell (World.block_lt_of_cell? w _ hw821_4)).trans hw821_4), ((HB.out.cell (World.block_lt_of_cell? w _ hw821_5)).trans hw821_5)⟩ (fun hHeld => ?_); refine with_tabW spec_Sure.tab7 spec_Sure.bits7 (fun HT_ HW_ => ?_)
          generalize wr.drew = w26 at HO_820000 HO_820001 HO_820005 BK805 BK806 BK819 HB HR821_2 hx821_0 hx821_1 hx821_2 hx821_3 hx821_4 hx821_5 hHeld ⊢
          refine pP 1 (some 19) ?_
          refine pP 3 (some 21) ?_
          refine pT 0 (some 18) ?_
          refine pT 2 (some 20) ?_
          refine pP 4 (some 22) ?_
          refine pT 5 (some 23) ?_
          refine pO 6 (some 24) (fun K hK => ?_)
          refine gG Try.func37 #[.agg #[.slice Ao27 x820000_1.length co27, .slice Ao28 x820001_1.length co28, .int .i64 x820002_1, .int .i64 x820003_1, .int .i64 x820004_1, .slice Ao29 x820005_1.length co29], .agg #[.int .i64 ((rd_T55 l0_5 x4_1).f0), .int .i64 ((rd_T55 l0_5 x4_1).f1), .slice A821_2 ((rd_T55 l0_5 x4_1).f2).length c821_2, .int .i64 ((rd_T55 l0_5 x4_1).f3.f0), .int .i64 ((rd_T55 l0_5 x4_1).f3.f1), .int .i64 ((rd_T55 l0_5 x4_1).f3.f2)]] ?_
          with_reducible refine (spec_OnePut.calls k1 _ _ x820000_1 _ _ x820001_1 x820002_1 x820003_1 x820004_1 _ _ x820005_1 ((rd_T55 l0_5 x4_1).f0) ((rd_T55 l0_5 x4_1).f1) _ _ ((rd_T55 l0_5 x4_1).f2) ((rd_T55 l0_5 x4_1).f3.f0) ((rd_T55 l0_5 x4_1).f3.f1) ((rd_T55 l0_5 x4_1).f3.f2) t822 t825 t828 t829 t830 t831 _ ?side1 ?side2 ?side3 ?side4 ?side5 ?side6 ?side7 ?side8 A22.out).mono ?_
          (case side1 => have X_ := (Kd.R_reads' HO_820000.out).2.2; exact TC)
          (case side2 => exact (Kd.R_reads' HO_820000.out).2.1)
          (case side3 => have X_ := (Kd.R_reads' HO_820001.out).2.2; exact TC)
          (case side4 => exact (Kd.R_reads' HO_820001.out).2.1)
          (case side5 => have X_ := (Kd.S_reads' HO_820005.out).2.2; exact TC)
          (case side6 => exact (Kd.S_reads' HO_820005.out).2.1)
          (case side7 => have X_ := (Kd.C_below HR821_2.out HB.out); exact TC)
          (case side8 => exact HC821_2.out)
          rintro e w30 ⟨v823, v826, v832, rfl, ho0, ho1, ho2, hb⟩
          refine ⟨_, rfl, ?_⟩
          have n0_ := aM (Kd.R_mono (Kd.R_told (Kd.R_told (Kd.R_old (by have X_ := HO_820000.out; exact TR) hb) (Kd.R_base ho0)) (Kd.R_base ho1)) (fun _ h_ => h_.1))
          have n1_ := aM (Kd.R_mono (Kd.R_told (Kd.R_told (Kd.R_old (by have X_ := HO_820001.out; exact TR) hb) (Kd.R_base ho0)) (Kd.R_base ho1)) (fun _ h_ => h_.1))
          have n2_ := aM (Kd.S_mono (Kd.S_told (Kd.S_told (Kd.S_told (Kd.S_old (by have X_ := HO_820005.out; exact TS) hb) (Kd.R_base ho0)) (Kd.R_base ho1)) (Kd.S_base ho2)) (fun _ h_ => h_.1))
          have n3_ := aM (Kd.R_lower (Kd.R_new' (Kd.R_new' ho0 (Kd.R_lt (by have X_ := HO_820000.out; exact TR))) (Kd.R_lt (by have X_ := HO_820001.out; exact TR))) (below_size TB))
          have n4_ := aM (Kd.R_lower (Kd.R_new' (Kd.R_new' ho1 (Kd.R_lt (by have X_ := HO_820000.out; exact TR))) (Kd.R_lt (by have X_ := HO_820001.out; exact TR))) (below_size TB))
          have n5_ := aM (Kd.S_lower (Kd.S_new' (Kd.S_new' (Kd.S_new' ho2 (Kd.R_lt (by have X_ := HO_820000.out; exact TR))) (Kd.R_lt (by have X_ := HO_820001.out; exact TR))) (Kd.S_lt (by have X_ := HO_820005.out; exact TS))) (below_size TB))
          have n6_ := aM (blk_below (g := gb805) (o := .cells #[.slice A0_0 l0_0.length c0_0, .slice A0_1 l0_1.length c0_1, .int .i64 a0_2, .int .i64 a0_3, .int .i64 a0_4, .slice (some ad821) l0_5.length c0_5] 33 (0, 0)) TK hb)
          have n7_ := aM (blk_below (g := gb806) (o := .cells #[.slice none 0 0, .slice none 0 0, .int .i64 0, .int .i64 0, .int .i64 0, .slice none 0 0] 33 (0, 0)) TK hb)
          have n8_ := aM (blk_below (g := gb819) (o := .cells #[.slice Ao27 x820000_1.length co27, .slice Ao28 x820001_1.length co28, .int .i64 x820002_1, .int .i64 x820003_1, .int .i64 x820004_1, .slice Ao29 x820005_1.length co29] 33 (0, 0)) TK hb)
          have n9_ := aM (below_step TB hb)
          clear HO_820000
          clear HO_820001
          clear HO_820005
          clear BK805
          clear BK806
          clear BK819
          clear HB
          have HO_820000 := n0_
          have HO_820001 := n1_
          have HO_820005 := n2_
          have HO824 := n3_
          have HO827 := n4_
          have HO833 := n5_
          have BK805 := n6_
          have BK806 := n7_
          have BK819 := n8_
          have HB := n9_
          clear n0_ n1_ n2_ n3_ n4_ n5_ n6_ n7_ n8_ n9_
          (try clear hb)
          (try clear hb2)
          (try clear hk)
          (try clear hi)
          (try clear ho0)
          (try clear ho1)
          (try clear ho2)
          obtain ⟨Ao31, co31, eo31⟩ := Kd.R_slice HO824.out
          (first | subst eo31 | (injection eo31 with f1_ f2_ f3_; have f4_ := f1_.symm; have f5_ := f3_.symm; clear f1_ f2_ f3_; subst f4_; subst f5_))
          obtain ⟨Ao33, co33, eo33⟩ := Kd.R_slice HO827.out
          (first | subst eo33 | (injection eo33 with f1_ f2_ f3_; have f4_ := f1_.symm; have f5_ := f3_.symm; clear f1_ f2_ f3_; subst f4_; subst f5_))
          obtain ⟨Ao38, co38, eo38⟩ := Kd.S_slice HO833.out
          (first | subst eo38 | (injection eo38 with f1_ f2_ f3_; have f4_ := f1_.symm; have f5_ := f3_.symm; clear f1_ f2_ f3_; subst f4_; subst f5_))
          refine hK.out _ _ ⟨(blk_cell BK819.out 0).trans rfl, (blk_cell BK819.out 1).trans rfl, (blk_cell BK819.out 2).trans rfl, (blk_cell BK819.out 3).trans rfl, (blk_cell BK819.out 4).trans rfl, (blk_cell BK819.out 5).trans rfl, (blk_cell BK805.out 0).trans rfl, (blk_cell BK805.out 1).trans rfl, (blk_cell BK805.out 2).trans rfl, (blk_cell BK805.out 3).trans rfl, (blk_cell BK805.out 4).trans rfl, (blk_cell BK805.out 5).trans rfl, ((HB.out.cell (World.block_lt_of_cell? w _ hw821_0)).trans hw821_0), ((HB.out.cell (World.block_lt_of_cell? w _ hw821_1)).trans hw821_1), ((HB.out.cell (World.block_lt_of_cell? w _ hw821_2)).trans hw821_2), ((HB.out.cell (World.block_lt_of_cell? w _ hw821_3)).trans hw821_3), ((HB.out.cell (World.block_lt_of_cell? w _ hw821_4)).trans hw821_4), ((HB.out.cell (World.block_lt_of_cell? w _ hw821_5)).trans hw821_5)⟩ (fun hHeld => ?_)
          clear hK K
          refine nR ?_
          refine pL 7 none (fun K hK => ?_)
          have hs32 : w30.cell? ⟨gb819, 0, none⟩ = some (.slice Ao27 x820000_1.length co27) := (blk_cell BK819.out 0).trans rfl
          have hfs32 := blk_frozen BK819.out 0
          have hns32_0 := NB805_819.out
          have hns32_1 := NB806_819.out
          have hms32_0 := NB819_805.out
          have hms32_1 := NB819_806.out
          have hs34 : w30.cell? ⟨gb819, 1, none⟩ = some (.slice Ao28 x820001_1.length co28) := (blk_cell BK819.out 1).trans rfl
          have hfs34 := blk_frozen BK819.out 1
          have hns34_0 := NB805_819.out
          have hns34_1 := NB806_819.out
          have hms34_0 := NB819_805.out
          have hms34_1 := NB819_806.out
          have hs35 : w30.cell? ⟨gb819, 2, none⟩ = some (.int .i64 x820002_1) := (blk_cell BK819.out 2).trans rfl
          have hfs35 := blk_frozen BK819.out 2
          have hns35_0 := NB805_819.out
          have hns35_1 := NB806_819.out
          have hms35_0 := NB819_805.out
          have hms35_1 := NB819_806.out
          have hs36 : w30.cell? ⟨gb819, 3, none⟩ = some (.int .i64 x820003_1) := (blk_cell BK819.out 3).trans rfl
          have hfs36 := blk_frozen BK819.out 3
          have hns36_0 := NB805_819.out
          have hns36_1 := NB806_819.out
          have hms36_0 := NB819_805.out
          have hms36_1 := NB819_806.out
          have hs37 : w30.cell? ⟨gb819, 4, none⟩ = some (.int .i64 x820004_1) := (blk_cell BK819.out 4).trans rfl
          have hfs37 := blk_frozen BK819.out 4
          have hns37_0 := NB805_819.out
          have hns37_1 := NB806_819.out
          have hms37_0 := NB819_805.out
          have hms37_1 := NB819_806.out
          have hs39 : w30.cell? ⟨gb819, 5, none⟩ = some (.slice Ao29 x820005_1.length co29) := (blk_cell BK819.out 5).trans rfl
          have hfs39 := blk_frozen BK819.out 5
          have hns39_0 := NB805_819.out
          have hns39_1 := NB806_819.out
          have hms39_0 := NB819_805.out
          have hms39_1 := NB819_806.out
          refine skip_ (w1 := ?_) (by rfl) rfl ?_ ?_
          rotate_left
          · go_simp
            rfl
          refine hK.out _ _ ?_
          clear hK K
          refine done_ (done_of HT_.out (by kernel_rfl)) ?_
          try go_wp2
          go_roundg k1
          case measure => have := HK1.out; omega
          case rel => exact ⟨(wrap64 (x4_1 + 1)), (t822), (t825), (t828), (t829), (t830), (t831), (.slice Ao31 t822.length co31), (.slice Ao33 t825.length co33), (.slice Ao38 t831.length co38), (by first | rfl | (simp; done) | (simp [*]; done)), H', ⟨by have := HK1.out; omega⟩, ⟨by (with_reducible repeat (first | apply Kd.R_alloc | apply Kd.R_drewN | apply Kd.R_drew)); exact Kd.R_mono (Kd.R_far (p := ⟨gb819, 5, none⟩) (Kd.R_far (p := ⟨gb819, 4, none⟩) (Kd.R_far (p := ⟨gb819, 3, none⟩) (Kd.R_far (p := ⟨gb819, 2, none⟩) (Kd.R_far (p := ⟨gb819, 1, none⟩) (Kd.R_far (p := ⟨gb819, 0, none⟩) (Kd.R_types HO824.out BK819.out (by decide)) (fun _ hk => hk.2) (.slice Ao31 t822.length co31)) (fun _ hk => hk.2) (.slice Ao33 t825.length co33)) (fun _ hk => hk.2) (.int .i64 t828)) (fun _ hk => hk.2) (.int .i64 t829)) (fun _ hk => hk.2) (.int .i64 t830)) (fun _ hk => hk.2) (.slice Ao38 t831.length co38)) (fun _ hk => hk.1.1.1)⟩, ⟨by (with_reducible repeat (first | apply Kd.R_alloc | apply Kd.R_drewN | apply Kd.R_drew)); exact Kd.R_mono (Kd.R_far (p := ⟨gb819, 5, none⟩) (Kd.R_far (p := ⟨gb819, 4, none⟩) (Kd.R_far (p := ⟨gb819, 3, none⟩) (Kd.R_far (p := ⟨gb819, 2, none⟩) (Kd.R_far (p := ⟨gb819, 1, none⟩) (Kd.R_far (p := ⟨gb819, 0, none⟩) (Kd.R_types HO827.out BK819.out (by decide)) (fun _ hk => hk.2) (.slice Ao31 t822.length co31)) (fun _ hk => hk.2) (.slice Ao33 t825.length co33)) (fun _ hk => hk.2) (.int .i64 t828)) (fun _ hk => hk.2) (.int .i64 t829)) (fun _ hk => hk.2) (.int .i64 t830)) (fun _ hk => hk.2) (.slice Ao38 t831.length co38)) (fun _ hk => hk.1.1.1)⟩, ⟨by (with_reducible repeat (first | apply Kd.S_alloc | apply Kd.S_drewN | apply Kd.S_drew)); exact Kd.S_mono (Kd.S_far (p := ⟨gb819, 5, none⟩) (Kd.S_far (p := ⟨gb819, 4, none⟩) (Kd.S_far (p := ⟨gb819, 3, none⟩) (Kd.S_far (p := ⟨gb819, 2, none⟩) (Kd.S_far (p := ⟨gb819, 1, none⟩) (Kd.S_far (p := ⟨gb819, 0, none⟩) (Kd.S_types HO833.out BK819.out (by decide)) (fun _ hk => hk.2) (.slice Ao31 t822.length co31)) (fun _ hk => hk.2) (.slice Ao33 t825.length co33)) (fun _ hk => hk.2) (.int .i64 t828)) (fun _ hk => hk.2) (.int .i64 t829)) (fun _ hk => hk.2) (.int .i64 t830)) (fun _ hk => hk.2) (.slice Ao38 t831.length co38)) (fun _ hk => ⟨hk.1.1.1.1.1, hk.1.1.1.1.2⟩)⟩, ⟨by (with_reducible repeat (first | refine blk_drewN ?_ _ | refine blk_drew ?_ | refine blk_alloc ?_ _)); refine blk_far ?_ NB805_819.out _; (with_reducible repeat (first | refine blk_drewN ?_ _ | refine blk_drew ?_ | refine blk_alloc ?_ _)); refine blk_far ?_ NB805_819.out _; (with_reducible repeat (first | refine blk_drewN ?_ _ | refine blk_drew ?_ | refine blk_alloc ?_ _)); refine blk_far ?_ NB805_819.out _; (with_reducible repeat (first | refine blk_drewN ?_ _ | refine blk_drew ?_ | refine blk_alloc ?_ _)); refine blk_far ?_ NB805_819.out _; (with_reducible repeat (first | refine blk_drewN ?_ _ | refine blk_drew ?_ | refine blk_alloc ?_ _)); refine blk_far ?_ NB805_819.out _; (with_reducible repeat (first | refine blk_drewN ?_ _ | refine blk_drew ?_ | refine blk_alloc ?_ _)); refine blk_far ?_ NB805_819.out _; (with_reducible repeat (first | refine blk_drewN ?_ _ | refine blk_drew ?_ | refine blk_alloc ?_ _)); exact BK805.out⟩, ⟨by (with_reducible repeat (first | refine blk_drewN ?_ _ | refine blk_drew ?_ | refine blk_alloc ?_ _)); refine blk_far ?_ NB806_819.out _; (with_reducible repeat (first | refine blk_drewN ?_ _ | refine blk_drew ?_ | refine blk_alloc ?_ _)); refine blk_far ?_ NB806_819.out _; (with_reducible repeat (first | refine blk_drewN ?_ _ | refine blk_drew ?_ | refine blk_alloc ?_ _)); refine blk_far ?_ NB806_819.out _; (with_reducible repeat (first | refine blk_drewN ?_ _ | refine blk_drew ?_ | refine blk_alloc ?_ _)); refine blk_far ?_ NB806_819.out _; (with_reducible repeat (first | refine blk_drewN ?_ _ | refine blk_drew ?_ | refine blk_alloc ?_ _)); refine blk_far ?_ NB806_819.out _; (with_reducible repeat (first | refine blk_drewN ?_ _ | refine blk_drew ?_ | refine blk_alloc ?_ _)); refine blk_far ?_ NB806_819.out _; (with_reducible repeat (first | refine blk_drewN ?_ _ | refine blk_drew ?_ | refine blk_alloc ?_ _)); exact BK806.out⟩, ⟨by (with_reducible repeat (first | refine blk_drewN ?_ _ | refine blk_drew ?_ | refine blk_alloc ?_ _)); refine blk_put (cs := #[.slice Ao31 t822.length co31, .slice Ao33 t825.length co33, .int .i64 t828, .int .i64 t829, .int .i64 t830, .slice Ao29 x820005_1.length co29]) ?_ 5 _ rfl; (with_reducible repeat (first | refine blk_drewN ?_ _ | refine blk_drew ?_ | refine blk_alloc ?_ _)); refine blk_put (cs := #[.slice Ao31 t822.length co31, .slice Ao33 t825.length co33, .int .i64 t828, .int .i64 t829, .int .i64 x820004_1, .slice Ao29 x820005_1.length co29]) ?_ 4 _ rfl; (with_reducible repeat (first | refine blk_drewN ?_ _ | refine blk_drew ?_ | refine blk_alloc ?_ _)); refine blk_put (cs := #[.slice Ao31 t822.length co31, .slice Ao33 t825.length co33, .int .i64 t828, .int .i64 x820003_1, .int .i64 x820004_1, .slice Ao29 x820005_1.length co29]) ?_ 3 _ rfl; (with_reducible repeat (first | refine blk_drewN ?_ _ | refine blk_drew ?_ | refine blk_alloc ?_ _)); refine blk_put (cs := #[.slice Ao31 t822.length co31, .slice Ao33 t825.length co33, .int .i64 x820002_1, .int .i64 x820003_1, .int .i64 x820004_1, .slice Ao29 x820005_1.length co29]) ?_ 2 _ rfl; (with_reducible repeat (first | refine blk_drewN ?_ _ | refine blk_drew ?_ | refine blk_alloc ?_ _)); refine blk_put (cs := #[.slice Ao31 t822.length co31, .slice Ao28 x820001_1.length co28, .int .i64 x820002_1, .int .i64 x820003_1, .int .i64 x820004_1, .slice Ao29 x820005_1.length co29]) ?_ 1 _ rfl; (with_reducible repeat (first | refine blk_drewN ?_ _ | refine blk_drew ?_ | refine blk_alloc ?_ _)); refine blk_put (cs := #[.slice Ao27 x820000_1.length co27, .slice Ao28 x820001_1.length co28, .int .i64 x820002_1, .int .i64 x820003_1, .int .i64 x820004_1, .slice Ao29 x820005_1.length co29]) ?_ 0 _ rfl; (with_reducible repeat (first | refine blk_drewN ?_ _ | refine blk_drew ?_ | refine blk_alloc ?_ _)); exact BK819.out⟩, ⟨TB⟩⟩
        · rw [if_neg c20] at H
          have c20b0 : decide (x4_1 < (l0_5.length : Int)) = false := decide_eq_false c20
          clear c20
          obtain ⟨y834, hy834⟩ : ∃ y_ : List (S55), y_ = (([] : List (S55))) := ⟨_, rfl⟩
          rw [← hy834] at H
          have Ny834 := aM hy834
          clear hy834
          simp only [Option.some.injEq, Prod.mk.injEq] at H
          obtain ⟨rfl, rfl, rfl, rfl, rfl, rfl⟩ := H
          have hnb40 := NB805_806.out
          have hnc40 := NB806_805.out
          have hnb41 := NB805_819.out
          have hnc41 := NB819_805.out
          obtain ⟨hcz42_0, hcz42_1, hcz42_2, hcz42_3, hcz42_4, hcz42_5⟩ := cz6 BK805.out
          obtain ⟨hfz42_0, hfz42_1, hfz42_2, hfz42_3, hfz42_4, hfz42_5⟩ := fz6 BK805.out
          go_wp2_with (first | ((with_reducible refine gate_dst (N := 25) rfl ?_); refine Kd.S_lit k55 _ 55 ?hg (N := 25) ?hd (xs := ([] : List (S55))) (inner := []) (ok := fun _ => True) (okp := fun _ => True) ?hr ?hp (fun _ hk => hk) trivial (Below.refl _ _) (Nat.le_refl _) (by simp) ?_; (case hd => rfl); (case hg => rfl); (case hr => first | (go_simp; done) | (go_simp; rfl)); (case hp => exact (Reps.none _ _)); intro v835 w43 ho44 hb hg_ hnew_; clear hg_ hnew_; (first | rw [← Ny834.out] at ho44 | (simp only [Int.reduceToNat] at ho44; rw [← Ny834.out] at ho44)); have HO836 := aM (Kd.S_lower (Kd.S_new' (Kd.S_new' (Kd.S_new' ho44 (Kd.R_lt (by have X_ := HO_820000.out; exact TR))) (Kd.R_lt (by have X_ := HO_820001.out; exact TR))) (Kd.S_lt (by have X_ := HO_820005.out; exact TS))) (below_size TB)); replace HO_820000 := aM (Kd.R_below (by have X_ := HO_820000.out; exact TR) hb); replace HO_820001 := aM (Kd.R_below (by have X_ := HO_820001.out; exact TR) hb); replace HO_820005 := aM (Kd.S_elder' (by have X_ := HO_820005.out; exact TS) (Kd.S_base ho44) hb); replace BK805 := aM (blk_below (g := gb805) (o := .cells #[.slice A0_0 l0_0.length c0_0, .slice A0_1 l0_1.length c0_1, .int .i64 a0_2, .int .i64 a0_3, .int .i64 a0_4, .slice A0_5 l0_5.length c0_5] 33 (0, 0)) TK hb); replace BK806 := aM (blk_below (g := gb806) (o := .cells #[.slice none 0 0, .slice none 0 0, .int .i64 0, .int .i64 0, .int .i64 0, .slice none 0 0] 33 (0, 0)) TK hb); replace BK819 := aM (blk_below (g := gb819) (o := .cells #[u820000, u820001, .int .i64 x820002_1, .int .i64 x820003_1, .int .i64 x820004_1, u820005] 33 (0, 0)) TK hb); replace HB := aM (below_step TB hb); clear hb ho44; obtain ⟨Ao45, co45, eo45⟩ := Kd.S_slice HO836.out; subst eo45; have hnb46 := NB819_806.out; have hnc46 := NB806_819.out; obtain ⟨hcz47_0, hcz47_1, hcz47_2, hcz47_3, hcz47_4, hcz47_5⟩ := cz6 BK819.out; obtain ⟨hfz47_0, hfz47_1, hfz47_2, hfz47_3, hfz47_4, hfz47_5⟩ := fz6 BK819.out; obtain ⟨Ao48, co48, eo48⟩ := Kd.R_slice HO_820000.out; subst eo48; obtain ⟨hcz49_0, hcz49_1, hcz49_2, hcz49_3, hcz49_4, hcz49_5⟩ := cz6 BK806.out; obtain ⟨hfz49_0, hfz49_1, hfz49_2, hfz49_3, hfz49_4, hfz49_5⟩ := fz6 BK806.out; obtain ⟨Ao50, co50, eo50⟩ := Kd.R_slice HO_820001.out; subst eo50))
          refine bodyPost_ret (results_cell_row rfl _ _ gb806 33 #[.slice Ao48 x820000_1.length co48, .slice Ao50 x820001_1.length co50, .int .i64 x820002_1, .int .i64 x820003_1, .int .i64 x820004_1, .slice Ao45 y834.length co45] (0, 0) _ rfl (by (with_reducible repeat (first | refine blk_drewN ?_ _ | refine blk_drew ?_ | refine blk_alloc ?_ _)); refine blk_put (cs := #[.slice Ao48 x820000_1.length co48, .slice Ao50 x820001_1.length co50, .int .i64 x820002_1, .int .i64 x820003_1, .int .i64 x820004_1, .slice none 0 0]) ?_ 5 _ rfl; (with_reducible repeat (first | refine blk_drewN ?_ _ | refine blk_drew ?_ | refine blk_alloc ?_ _)); refine blk_put (cs := #[.slice Ao48 x820000_1.length co48, .slice Ao50 x820001_1.length co50, .int .i64 x820002_1, .int .i64 x820003_1, .int .i64 0, .slice none 0 0]) ?_ 4 _ rfl; (with_reducible repeat (first | refine blk_drewN ?_ _ | refine blk_drew ?_ | refine blk_alloc ?_ _)); refine blk_put (cs := #[.slice Ao48 x820000_1.length co48, .slice Ao50 x820001_1.length co50, .int .i64 x820002_1, .int .i64 0, .int .i64 0, .slice none 0 0]) ?_ 3 _ rfl; (with_reducible repeat (first | refine blk_drewN ?_ _ | refine blk_drew ?_ | refine blk_alloc ?_ _)); refine blk_put (cs := #[.slice Ao48 x820000_1.length co48, .slice Ao50 x820001_1.length co50, .int .i64 0, .int .i64 0, .int .i64 0, .slice none 0 0]) ?_ 2 _ rfl; (with_reducible repeat (first | refine blk_drewN ?_ _ | refine blk_drew ?_ | refine blk_alloc ?_ _)); refine blk_put (cs := #[.slice Ao48 x820000_1.length co48, .slice none 0 0, .int .i64 0, .int .i64 0, .int .i64 0, .slice none 0 0]) ?_ 1 _ rfl; (with_reducible repeat (first | refine blk_drewN ?_ _ | refine blk_drew ?_ | refine blk_alloc ?_ _)); refine blk_put (cs := #[.slice none 0 0, .slice none 0 0, .int .i64 0, .int .i64 0, .int .i64 0, .slice none 0 0]) ?_ 0 _ rfl; (with_reducible repeat (first | refine blk_drewN ?_ _ | refine blk_drew ?_ | refine blk_alloc ?_ _)); refine blk_far ?_ NB806_819.out _; (with_reducible repeat (first | refine blk_drewN ?_ _ | refine blk_drew ?_ | refine blk_alloc ?_ _)); exact BK806.out) Try.underlying33 rfl (by kernel_rfl)) rfl ?_
          exact ⟨_, _, _, by first | rfl | (simp [errW_none, errW_some] <;> rfl) | (simp [*, errW_none, errW_some] <;> rfl), by (with_reducible repeat (first | apply Kd.R_alloc | apply Kd.R_drewN | apply Kd.R_drew)); exact Kd.R_mono (Kd.R_far (p := ⟨gb806, 5, none⟩) (Kd.R_far (p := ⟨gb806, 4, none⟩) (Kd.R_far (p := ⟨gb806, 3, none⟩) (Kd.R_far (p := ⟨gb806, 2, none⟩) (Kd.R_far (p := ⟨gb806, 1, none⟩) (Kd.R_far (p := ⟨gb806, 0, none⟩) (Kd.R_far (p := ⟨gb819, 5, none⟩) (Kd.R_types (Kd.R_types HO_820000.out BK819.out (by decide)) BK806.out (by decide)) (fun _ hk => hk.1.2) (.slice Ao45 y834.length co45)) (fun _ hk => hk.2) (.slice Ao48 x820000_1.length co48)) (fun _ hk => hk.2) (.slice Ao50 x820001_1.length co50)) (fun _ hk => hk.2) (.int .i64 x820002_1)) (fun _ hk => hk.2) (.int .i64 x820003_1)) (fun _ hk => hk.2) (.int .i64 x820004_1)) (fun _ hk => hk.2) (.slice Ao45 y834.length co45)) (fun _ hk => hk.1.1), by (with_reducible repeat (first | apply Kd.R_alloc | apply Kd.R_drewN | apply Kd.R_drew)); exact Kd.R_mono (Kd.R_far (p := ⟨gb806, 5, none⟩) (Kd.R_far (p := ⟨gb806, 4, none⟩) (Kd.R_far (p := ⟨gb806, 3, none⟩) (Kd.R_far (p := ⟨gb806, 2, none⟩) (Kd.R_far (p := ⟨gb806, 1, none⟩) (Kd.R_far (p := ⟨gb806, 0, none⟩) (Kd.R_far (p := ⟨gb819, 5, none⟩) (Kd.R_types (Kd.R_types HO_820001.out BK819.out (by decide)) BK806.out (by decide)) (fun _ hk => hk.1.2) (.slice Ao45 y834.length co45)) (fun _ hk => hk.2) (.slice Ao48 x820000_1.length co48)) (fun _ hk => hk.2) (.slice Ao50 x820001_1.length co50)) (fun _ hk => hk.2) (.int .i64 x820002_1)) (fun _ hk => hk.2) (.int .i64 x820003_1)) (fun _ hk => hk.2) (.int .i64 x820004_1)) (fun _ hk => hk.2) (.slice Ao45 y834.length co45)) (fun _ hk => hk.1.1), by (with_reducible repeat (first | apply Kd.S_alloc | apply Kd.S_drewN | apply Kd.S_drew)); exact Kd.S_mono (Kd.S_far (p := ⟨gb806, 5, none⟩) (Kd.S_far (p := ⟨gb806, 4, none⟩) (Kd.S_far (p := ⟨gb806, 3, none⟩) (Kd.S_far (p := ⟨gb806, 2, none⟩) (Kd.S_far (p := ⟨gb806, 1, none⟩) (Kd.S_far (p := ⟨gb806, 0, none⟩) (Kd.S_far (p := ⟨gb819, 5, none⟩) (Kd.S_types (Kd.S_types HO836.out BK819.out (by decide)) BK806.out (by decide)) (fun _ hk => hk.1.2) (.slice Ao45 y834.length co45)) (fun _ hk => hk.2) (.slice Ao48 x820000_1.length co48)) (fun _ hk => hk.2) (.slice Ao50 x820001_1.length co50)) (fun _ hk => hk.2) (.int .i64 x820002_1)) (fun _ hk => hk.2) (.int .i64 x820003_1)) (fun _ hk => hk.2) (.int .i64 x820004_1)) (fun _ hk => hk.2) (.slice Ao45 y834.length co45)) (fun _ hk => ⟨hk.1.1.1.1.2, hk.1.1.1.2⟩), TB⟩
  · replace c18 := Bool.eq_false_iff.mpr c18
    subst c18
    replace H := ifF H
    simp only [Option.some.injEq, Prod.mk.injEq] at H
    obtain ⟨rfl, rfl, rfl, rfl, rfl, rfl⟩ := H
    go_wp2_with (first | ((with_reducible refine gate_callee (f := 27) rfl ?_); refine gL (some 8) Try.func27 #[.agg #[.slice A0_0 l0_0.length c0_0, .slice A0_1 l0_1.length c0_1, .int .i64 a0_2, .int .i64 a0_3, .int .i64 a0_4, .slice A0_5 l0_5.length c0_5]] ?_; (with_reducible refine (spec_DiskOk.calls k _ _ l0_0 _ _ l0_1 a0_2 a0_3 a0_4 _ _ l0_5 false _ ?side1 ?side2 ?side3 ?side4 ?side5 ?side6 A3.out).mono ?_); (case side1 => exact Kd.C_below HR0_0.out TB); (case side2 => exact HC0_0.out); (case side3 => exact Kd.C_below HR0_1.out TB); (case side4 => exact HC0_1.out); (case side5 => exact Kd.C_below HR0_5.out TB); (case side6 => exact HC0_5.out); rintro e w51 ⟨rfl, hb⟩; refine ⟨_, rfl, ?_⟩; replace HO809 := aM (Kd.R_below (by (with_reducible repeat (first | apply Kd.R_alloc | apply Kd.R_drewN | apply Kd.R_drew)); exact (R_off (Kd.R_types HO809.out BK819.out (by decide)) TO)) hb); replace HO812 := aM (Kd.R_below (by (with_reducible repeat (first | apply Kd.R_alloc | apply Kd.R_drewN | apply Kd.R_drew)); exact (R_off (Kd.R_types HO812.out BK819.out (by decide)) TO)) hb); replace HO818 := aM (Kd.S_below (by (with_reducible repeat (first | apply Kd.S_alloc | apply Kd.S_drewN | apply Kd.S_drew)); exact (S_off (Kd.S_types HO818.out BK819.out (by decide)) TO)) hb); replace BK805 := aM (blk_below (g := gb805) (o := .cells #[.slice A0_0 l0_0.length c0_0, .slice A0_1 l0_1.length c0_1, .int .i64 a0_2, .int .i64 a0_3, .int .i64 a0_4, .slice A0_5 l0_5.length c0_5] 33 (0, 0)) (by (with_reducible repeat (first | refine blk_drewN ?_ _ | refine blk_drew ?_ | refine blk_alloc ?_ _)); refine blk_far ?_ NB805_819.out _; (with_reducible repeat (first | refine blk_drewN ?_ _ | refine blk_drew ?_ | refine blk_alloc ?_ _)); refine blk_far ?_ NB805_819.out _; (with_reducible repeat (first | refine blk_drewN ?_ _ | refine blk_drew ?_ | refine blk_alloc ?_ _)); refine blk_far ?_ NB805_819.out _; (with_reducible repeat (first | refine blk_drewN ?_ _ | refine blk_drew ?_ | refine blk_alloc ?_ _)); refine blk_far ?_ NB805_819.out _; (with_reducible repeat (first | refine blk_drewN ?_ _ | refine blk_drew ?_ | refine blk_alloc ?_ _)); refine blk_far ?_ NB805_819.out _; (with_reducible repeat (first | refine blk_drewN ?_ _ | refine blk_drew ?_ | refine blk_alloc ?_ _)); refine blk_far ?_ NB805_819.out _; (with_reducible repeat (first | refine blk_drewN ?_ _ | refine blk_drew ?_ | refine blk_alloc ?_ _)); exact BK805.out) hb); replace BK806 := aM (blk_below (g := gb806) (o := .cells #[.slice none 0 0, .slice none 0 0, .int .i64 0, .int .i64 0, .int .i64 0, .slice none 0 0] 33 (0, 0)) (by (with_reducible repeat (first | refine blk_drewN ?_ _ | refine blk_drew ?_ | refine blk_alloc ?_ _)); refine blk_far ?_ NB806_819.out _; (with_reducible repeat (first | refine blk_drewN ?_ _ | refine blk_drew ?_ | refine blk_alloc ?_ _)); refine blk_far ?_ NB806_819.out _; (with_reducible repeat (first | refine blk_drewN ?_ _ | refine blk_drew ?_ | refine blk_alloc ?_ _)); refine blk_far ?_ NB806_819.out _; (with_reducible repeat (first | refine blk_drewN ?_ _ | refine blk_drew ?_ | refine blk_alloc ?_ _)); refine blk_far ?_ NB806_819.out _; (with_reducible repeat (first | refine blk_drewN ?_ _ | refine blk_drew ?_ | refine blk_alloc ?_ _)); refine blk_far ?_ NB806_819.out _; (with_reducible repeat (first | refine blk_drewN ?_ _ | refine blk_drew ?_ | refine blk_alloc ?_ _)); refine blk_far ?_ NB806_819.out _; (with_reducible repeat (first | refine blk_drewN ?_ _ | refine blk_drew ?_ | refine blk_alloc ?_ _)); exact BK806.out) hb); replace BK819 := aM (blk_below (g := gb819) (o := .cells #[.slice Ao11 t807.length co11, .slice Ao15 t810.length co15, .int .i64 t813, .int .i64 t814, .int .i64 t815, .slice Ao16 t816.length co16] 33 (0, 0)) (by (with_reducible repeat (first | refine blk_drewN ?_ _ | refine blk_drew ?_ | refine blk_alloc ?_ _)); refine blk_put (cs := #[.slice Ao11 t807.length co11, .slice Ao15 t810.length co15, .int .i64 t813, .int .i64 t814, .int .i64 t815, .slice none 0 0]) ?_ 5 _ rfl; (with_reducible repeat (first | refine blk_drewN ?_ _ | refine blk_drew ?_ | refine blk_alloc ?_ _)); refine blk_put (cs := #[.slice Ao11 t807.length co11, .slice Ao15 t810.length co15, .int .i64 t813, .int .i64 t814, .int .i64 0, .slice none 0 0]) ?_ 4 _ rfl; (with_reducible repeat (first | refine blk_drewN ?_ _ | refine blk_drew ?_ | refine blk_alloc ?_ _)); refine blk_put (cs := #[.slice Ao11 t807.length co11, .slice Ao15 t810.length co15, .int .i64 t813, .int .i64 0, .int .i64 0, .slice none 0 0]) ?_ 3 _ rfl; (with_reducible repeat (first | refine blk_drewN ?_ _ | refine blk_drew ?_ | refine blk_alloc ?_ _)); refine blk_put (cs := #[.slice Ao11 t807.length co11, .slice Ao15 t810.length co15, .int .i64 0, .int .i64 0, .int .i64 0, .slice none 0 0]) ?_ 2 _ rfl; (with_reducible repeat (first | refine blk_drewN ?_ _ | refine blk_drew ?_ | refine blk_alloc ?_ _)); refine blk_put (cs := #[.slice Ao11 t807.length co11, .slice none 0 0, .int .i64 0, .int .i64 0, .int .i64 0, .slice none 0 0]) ?_ 1 _ rfl; (with_reducible repeat (first | refine blk_drewN ?_ _ | refine blk_drew ?_ | refine blk_alloc ?_ _)); refine blk_put (cs := #[.slice none 0 0, .slice none 0 0, .int .i64 0, .int .i64 0, .int .i64 0, .slice none 0 0]) ?_ 0 _ rfl; (with_reducible repeat (first | refine blk_drewN ?_ _ | refine blk_drew ?_ | refine blk_alloc ?_ _)); exact BK819.out) hb); replace HB := aM (below_step TB hb); clear hb; have hnb52 := NB819_805.out; have hnc52 := NB805_819.out; have hnb53 := NB819_806.out; have hnc53 := NB806_819.out; obtain ⟨hcz54_0, hcz54_1, hcz54_2, hcz54_3, hcz54_4, hcz54_5⟩ := cz6 BK819.out; obtain ⟨hfz54_0, hfz54_1, hfz54_2, hfz54_3, hfz54_4, hfz54_5⟩ := fz6 BK819.out; have hnb55 := NB806_805.out; have hnc55 := NB805_806.out; obtain ⟨hcz56_0, hcz56_1, hcz56_2, hcz56_3, hcz56_4, hcz56_5⟩ := cz6 BK806.out; obtain ⟨hfz56_0, hfz56_1, hfz56_2, hfz56_3, hfz56_4, hfz56_5⟩ := fz6 BK806.out))
    refine bodyPost_ret (results_cell_row rfl _ _ gb806 33 #[.slice Ao11 t807.length co11, .slice Ao15 t810.length co15, .int .i64 t813, .int .i64 t814, .int .i64 t815, .slice Ao16 t816.length co16] (0, 0) _ rfl (by (with_reducible repeat (first | refine blk_drewN ?_ _ | refine blk_drew ?_ | refine blk_alloc ?_ _)); refine blk_put (cs := #[.slice Ao11 t807.length co11, .slice Ao15 t810.length co15, .int .i64 t813, .int .i64 t814, .int .i64 t815, .slice none 0 0]) ?_ 5 _ rfl; (with_reducible repeat (first | refine blk_drewN ?_ _ | refine blk_drew ?_ | refine blk_alloc ?_ _)); refine blk_put (cs := #[.slice Ao11 t807.length co11, .slice Ao15 t810.length co15, .int .i64 t813, .int .i64 t814, .int .i64 0, .slice none 0 0]) ?_ 4 _ rfl; (with_reducible repeat (first | refine blk_drewN ?_ _ | refine blk_drew ?_ | refine blk_alloc ?_ _)); refine blk_put (cs := #[.slice Ao11 t807.length co11, .slice Ao15 t810.length co15, .int .i64 t813, .int .i64 0, .int .i64 0, .slice none 0 0]) ?_ 3 _ rfl; (with_reducible repeat (first | refine blk_drewN ?_ _ | refine blk_drew ?_ | refine blk_alloc ?_ _)); refine blk_put (cs := #[.slice Ao11 t807.length co11, .slice Ao15 t810.length co15, .int .i64 0, .int .i64 0, .int .i64 0, .slice none 0 0]) ?_ 2 _ rfl; (with_reducible repeat (first | refine blk_drewN ?_ _ | refine blk_drew ?_ | refine blk_alloc ?_ _)); refine blk_put (cs := #[.slice Ao11 t807.length co11, .slice none 0 0, .int .i64 0, .int .i64 0, .int .i64 0, .slice none 0 0]) ?_ 1 _ rfl; (with_reducible repeat (first | refine blk_drewN ?_ _ | refine blk_drew ?_ | refine blk_alloc ?_ _)); refine blk_put (cs := #[.slice none 0 0, .slice none 0 0, .int .i64 0, .int .i64 0, .int .i64 0, .slice none 0 0]) ?_ 0 _ rfl; (with_reducible repeat (first | refine blk_drewN ?_ _ | refine blk_drew ?_ | refine blk_alloc ?_ _)); exact BK806.out) Try.underlying33 rfl (by kernel_rfl)) rfl ?_
    exact ⟨_, _, _, by first | rfl | (simp [errW_none, errW_some] <;> rfl) | (simp [*, errW_none, errW_some] <;> rfl), by (with_reducible repeat (first | apply Kd.R_alloc | apply Kd.R_drewN | apply Kd.R_drew)); exact Kd.R_mono (Kd.R_far (p := ⟨gb806, 5, none⟩) (Kd.R_far (p := ⟨gb806, 4, none⟩) (Kd.R_far (p := ⟨gb806, 3, none⟩) (Kd.R_far (p := ⟨gb806, 2, none⟩) (Kd.R_far (p := ⟨gb806, 1, none⟩) (Kd.R_far (p := ⟨gb806, 0, none⟩) (Kd.R_types HO809.out BK806.out (by decide)) (fun _ hk => hk.2) (.slice Ao11 t807.length co11)) (fun _ hk => hk.2) (.slice Ao15 t810.length co15)) (fun _ hk => hk.2) (.int .i64 t813)) (fun _ hk => hk.2) (.int .i64 t814)) (fun _ hk => hk.2) (.int .i64 t815)) (fun _ hk => hk.2) (.slice Ao16 t816.length co16)) (fun _ hk => hk.1), by (with_reducible repeat (first | apply Kd.R_alloc | apply Kd.R_drewN | apply Kd.R_drew)); exact Kd.R_mono (Kd.R_far (p := ⟨gb806, 5, none⟩) (Kd.R_far (p := ⟨gb806, 4, none⟩) (Kd.R_far (p := ⟨gb806, 3, none⟩) (Kd.R_far (p := ⟨gb806, 2, none⟩) (Kd.R_far (p := ⟨gb806, 1, none⟩) (Kd.R_far (p := ⟨gb806, 0, none⟩) (Kd.R_types HO812.out BK806.out (by decide)) (fun _ hk => hk.2) (.slice Ao11 t807.length co11)) (fun _ hk => hk.2) (.slice Ao15 t810.length co15)) (fun _ hk => hk.2) (.int .i64 t813)) (fun _ hk => hk.2) (.int .i64 t814)) (fun _ hk => hk.2) (.int .i64 t815)) (fun _ hk => hk.2) (.slice Ao16 t816.length co16)) (fun _ hk => hk.1), by (with_reducible repeat (first | apply Kd.S_alloc | apply Kd.S_drewN | apply Kd.S_drew)); exact Kd.S_mono (Kd.S_far (p := ⟨gb806, 5, none⟩) (Kd.S_far (p := ⟨gb806, 4, none⟩) (Kd.S_far (p := ⟨gb806, 3, none⟩) (Kd.S_far (p := ⟨gb806, 2, none⟩) (Kd.S_far (p := ⟨gb806, 1, none⟩) (Kd.S_far (p := ⟨gb806, 0, none⟩) (Kd.S_types HO818.out BK806.out (by decide)) (fun _ hk => hk.2) (.slice Ao11 t807.length co11)) (fun _ hk => hk.2) (.slice Ao15 t810.length co15)) (fun _ hk => hk.2) (.int .i64 t813)) (fun _ hk => hk.2) (.int .i64 t814)) (fun _ hk => hk.2) (.int .i64 t815)) (fun _ hk => hk.2) (.slice Ao16 t816.length co16)) (fun _ hk => ⟨hk.1.1, hk.1.2⟩), TB⟩

end Go.Proofs.Ytogilihkphjjbaa.Q
