/- Functions of the program as plain Lean functions, and that a call of each comes to what its function tells. Written by a program of this seat. -/
import Derived.Test.YtogilihkphjjbaaQ0
import Derived.Test.YtogilihkphjjbaaQ2
import Derived.Test.YtogilihkphjjbaaQ4
namespace Go.Proofs.Ytogilihkphjjbaa.Q
open Go.RowKit Go.Proofs.YtogilihkphjjbaaW.PrintWords Go.Proofs.YtogilihkphjjbaaW.PrintLast Go.Proofs.YtogilihkphjjbaaW.PrintMore
attribute [local go_sem] max2_int min2_int max_two min_two max_three min_three max_four min_four   -- for this text's walks alone
set_option linter.unusedVariables false
set_option linter.unusedSimpArgs false

/-! ### laws_toPut: function 38 -/
def laws_toPut.f (k : Nat) (a0_0 : Int) (a0_1 : Int) (l0_2 : List Int) (a0_3 : Int) (a0_4 : Int) (a0_5 : Int) : Option (Int × Int × List Int × Int × Int × Int) := (laws_toByteS.f k l0_2).bind fun t121 => ((laws_toRecord.f a0_3 a0_4 a0_5).bind fun bt124 => (some (a0_0, a0_1, t121, bt124.1, bt124.2.1, bt124.2.2)))
theorem laws_toPut.mono : ∀ a0 a1 a2 a3 a4 a5 k, LeO (laws_toPut.f k a0 a1 a2 a3 a4 a5) (laws_toPut.f (k + 1) a0 a1 a2 a3 a4 a5) := by
  intro a0 a1 a2 a3 a4 a5 k
  have m0_ := @laws_toByteS.mono
  unfold laws_toPut.f
  exact LM
set_option maxHeartbeats 40000000 in
set_option maxRecDepth 100000 in
theorem laws_toPut.calls (k : Nat) (a0_0 : Int) (a0_1 : Int) (A0_2 : Option Addr) (c0_2 : Nat) (l0_2 : List Int) (a0_3 : Int) (a0_4 : Int) (a0_5 : Int) (r1 : Int) (r2 : Int) (r3 : List Int) (r4 : Int) (r5 : Int) (r6 : Int) (w : World) (hr0_2 : Kd.C (Kd.int .u8) w A0_2 l0_2.length l0_2) (hc0_2 : l0_2.length ≤ c0_2) (h : laws_toPut.f k a0_0 a0_1 l0_2 a0_3 a0_4 a0_5 = some (r1, r2, r3, r4, r5, r6)) :
    Calls Try.prog 38 #[.agg #[.int .i64 a0_0, .int .i64 a0_1, .slice A0_2 l0_2.length c0_2, .int .i64 a0_3, .int .i64 a0_4, .int .i64 a0_5]] w fun e w' => ∃ v2_ : Value, e = .returned (.agg #[.int .i64 r1, .int .i64 r2, v2_, .int .i64 r4, .int .i64 r5, .int .i64 r6]) ∧ Kd.R (Kd.int .u8) 5 w' w.heap.size (fun _ => True) v2_ r3 ∧ Below w.heap.size w w' := by
  have hu51 := Try.underlying51
  have hu55 := Try.underlying55
  have hu24 := Try.underlying24
  have hu30 := Try.underlying30
  have HR0_2 := aM hr0_2
  have HC0_2 := aM hc0_2
  clear hr0_2 hc0_2
  have HB := aM (Below.refl w.heap.size w)
  have H := h
  clear h
  unfold laws_toPut.f at H
  replace H := bE H
  obtain ⟨t121, A2, H⟩ := H
  replace H := bE H
  obtain ⟨⟨t124, t125, t126⟩, A3, H⟩ := H
  dsimp only at H
  simp only [Option.some.injEq, Prod.mk.injEq] at H
  obtain ⟨rfl, rfl, rfl, rfl, rfl, rfl⟩ := H
  go_enter Try.func38, Try.ntmps38
  go_wp2_with (first | ((with_reducible refine gate_dst (N := 1) rfl ?_); refine gBx 1 #[.int .i64 a0_0, .int .i64 a0_1, .slice A0_2 l0_2.length c0_2, .int .i64 a0_3, .int .i64 a0_4, .int .i64 a0_5] 51 ?_; intro gb118 hg w4 hbox hb; have BK118 := aM (hbox); have GW118 := aM ((by rw [hg]; exact (below_size TB) : w.heap.size ≤ gb118)); have GE118 := aM ((by rw [hg]; exact (below_size TB) : w.heap.size ≤ gb118)); replace HB := aM (below_step TB hb); clear hb hbox hg) | ((with_reducible refine gate_dst (N := 2) rfl ?_); refine gBx 2 #[.int .i64 0, .int .i64 0, .slice none 0 0, .int .i64 0, .int .i64 0, .int .i64 0] 55 ?_; intro gb119 hg w5 hbox hb; have BK119 := aM (hbox); have GW119 := aM ((by rw [hg]; exact (below_size TB) : w.heap.size ≤ gb119)); have GE119 := aM ((by rw [hg]; exact (below_size TB) : w.heap.size ≤ gb119)); have NB118_119 := aM ((by rw [hg]; exact Nat.ne_of_lt (blk_lt (by have X_ := BK118.out; exact TX)) : gb118 ≠ gb119)); have NB119_118 := aM ((by rw [hg]; exact Nat.ne_of_gt (blk_lt (by have X_ := BK118.out; exact TX)) : gb119 ≠ gb118)); replace BK118 := aM (blk_below (by have X_ := BK118.out; exact TX) hb); replace HB := aM (below_step TB hb); clear hb hbox hg) | ((with_reducible refine gate_dst (N := 3) rfl ?_); refine gBx 3 #[.int .i64 0, .int .i64 0, .slice none 0 0, .int .i64 0, .int .i64 0, .int .i64 0] 55 ?_; intro gb120 hg w6 hbox hb; have BK120 := aM (hbox); have GW120 := aM ((by rw [hg]; exact (below_size TB) : w.heap.size ≤ gb120)); have GE120 := aM ((by rw [hg]; exact (below_size TB) : w.heap.size ≤ gb120)); have NB118_120 := aM ((by rw [hg]; exact Nat.ne_of_lt (blk_lt (by have X_ := BK118.out; exact TX)) : gb118 ≠ gb120)); have NB120_118 := aM ((by rw [hg]; exact Nat.ne_of_gt (blk_lt (by have X_ := BK118.out; exact TX)) : gb120 ≠ gb118)); have NB119_120 := aM ((by rw [hg]; exact Nat.ne_of_lt (blk_lt (by have X_ := BK119.out; exact TX)) : gb119 ≠ gb120)); have NB120_119 := aM ((by rw [hg]; exact Nat.ne_of_gt (blk_lt (by have X_ := BK119.out; exact TX)) : gb120 ≠ gb119)); replace BK118 := aM (blk_below (by have X_ := BK118.out; exact TX) hb); replace BK119 := aM (blk_below (by have X_ := BK119.out; exact TX) hb); replace HB := aM (below_step TB hb); clear hb hbox hg; have hnb7 := NB118_119.out; have hnc7 := NB119_118.out; have hnb8 := NB118_120.out; have hnc8 := NB120_118.out; obtain ⟨hcz9_0, hcz9_1, hcz9_2, hcz9_3, hcz9_4, hcz9_5⟩ := cz6 BK118.out; obtain ⟨hfz9_0, hfz9_1, hfz9_2, hfz9_3, hfz9_4, hfz9_5⟩ := fz6 BK118.out; have hnb10 := NB120_119.out; have hnc10 := NB119_120.out; obtain ⟨hcz11_0, hcz11_1, hcz11_2, hcz11_3, hcz11_4, hcz11_5⟩ := cz6 BK120.out; obtain ⟨hfz11_0, hfz11_1, hfz11_2, hfz11_3, hfz11_4, hfz11_5⟩ := fz6 BK120.out) | ((with_reducible refine gate_callee (f := 21) rfl ?_); refine gL (some 12) Try.func21 #[.slice A0_2 l0_2.length c0_2] ?_; (with_reducible refine (laws_toByteS.calls k _ _ l0_2 t121 _ ?side1 ?side2 A2.out).mono ?_); (case side1 => exact Kd.C_below HR0_2.out TB); (case side2 => exact HC0_2.out); rintro e w12 ⟨v122, rfl, ho0, hb⟩; refine ⟨_, rfl, ?_⟩; have HO123 := aM (Kd.R_lower ho0 (below_size TB)); replace BK118 := aM (blk_below (g := gb118) (o := .cells #[.int .i64 a0_0, .int .i64 a0_1, .slice A0_2 l0_2.length c0_2, .int .i64 a0_3, .int .i64 a0_4, .int .i64 a0_5] 51 (0, 0)) (by (with_reducible repeat (first | refine blk_drewN ?_ _ | refine blk_drew ?_ | refine blk_alloc ?_ _)); refine blk_far ?_ NB118_120.out _; (with_reducible repeat (first | refine blk_drewN ?_ _ | refine blk_drew ?_ | refine blk_alloc ?_ _)); refine blk_far ?_ NB118_120.out _; (with_reducible repeat (first | refine blk_drewN ?_ _ | refine blk_drew ?_ | refine blk_alloc ?_ _)); exact BK118.out) hb); replace BK119 := aM (blk_below (g := gb119) (o := .cells #[.int .i64 0, .int .i64 0, .slice none 0 0, .int .i64 0, .int .i64 0, .int .i64 0] 55 (0, 0)) (by (with_reducible repeat (first | refine blk_drewN ?_ _ | refine blk_drew ?_ | refine blk_alloc ?_ _)); refine blk_far ?_ NB119_120.out _; (with_reducible repeat (first | refine blk_drewN ?_ _ | refine blk_drew ?_ | refine blk_alloc ?_ _)); refine blk_far ?_ NB119_120.out _; (with_reducible repeat (first | refine blk_drewN ?_ _ | refine blk_drew ?_ | refine blk_alloc ?_ _)); exact BK119.out) hb); replace BK120 := aM (blk_below (g := gb120) (o := .cells #[.int .i64 a0_0, .int .i64 a0_1, .slice none 0 0, .int .i64 0, .int .i64 0, .int .i64 0] 55 (0, 0)) (by (with_reducible repeat (first | refine blk_drewN ?_ _ | refine blk_drew ?_ | refine blk_alloc ?_ _)); refine blk_put (cs := #[.int .i64 a0_0, .int .i64 0, .slice none 0 0, .int .i64 0, .int .i64 0, .int .i64 0]) ?_ 1 _ rfl; (with_reducible repeat (first | refine blk_drewN ?_ _ | refine blk_drew ?_ | refine blk_alloc ?_ _)); refine blk_put (cs := #[.int .i64 0, .int .i64 0, .slice none 0 0, .int .i64 0, .int .i64 0, .int .i64 0]) ?_ 0 _ rfl; (with_reducible repeat (first | refine blk_drewN ?_ _ | refine blk_drew ?_ | refine blk_alloc ?_ _)); exact BK120.out) hb); replace HB := aM (below_step TB hb); clear ho0 hb; obtain ⟨Ao13, co13, eo13⟩ := Kd.R_slice HO123.out; subst eo13; obtain ⟨hcz14_0, hcz14_1, hcz14_2, hcz14_3, hcz14_4, hcz14_5⟩ := cz6 BK120.out; obtain ⟨hfz14_0, hfz14_1, hfz14_2, hfz14_3, hfz14_4, hfz14_5⟩ := fz6 BK120.out; obtain ⟨hcz15_0, hcz15_1, hcz15_2, hcz15_3, hcz15_4, hcz15_5⟩ := cz6 BK118.out; obtain ⟨hfz15_0, hfz15_1, hfz15_2, hfz15_3, hfz15_4, hfz15_5⟩ := fz6 BK118.out) | ((with_reducible refine gate_callee (f := 43) rfl ?_); refine gL (some 16) Try.func43 #[.agg #[.int .i64 a0_3, .int .i64 a0_4, .int .i64 a0_5]] ?_; (with_reducible refine (laws_toRecord.calls a0_3 a0_4 a0_5 t124 t125 t126 _ A3.out).mono ?_); rintro e w16 ⟨rfl, hb⟩; refine ⟨_, rfl, ?_⟩; replace HO123 := aM (Kd.R_below (by (with_reducible repeat (first | apply Kd.R_alloc | apply Kd.R_drewN | apply Kd.R_drew)); exact (R_off (Kd.R_types HO123.out BK120.out (by decide)) TO)) hb); replace BK118 := aM (blk_below (g := gb118) (o := .cells #[.int .i64 a0_0, .int .i64 a0_1, .slice A0_2 l0_2.length c0_2, .int .i64 a0_3, .int .i64 a0_4, .int .i64 a0_5] 51 (0, 0)) (by (with_reducible repeat (first | refine blk_drewN ?_ _ | refine blk_drew ?_ | refine blk_alloc ?_ _)); refine blk_far ?_ NB118_120.out _; (with_reducible repeat (first | refine blk_drewN ?_ _ | refine blk_drew ?_ | refine blk_alloc ?_ _)); exact BK118.out) hb); replace BK119 := aM (blk_below (g := gb119) (o := .cells #[.int .i64 0, .int .i64 0, .slice none 0 0, .int .i64 0, .int .i64 0, .int .i64 0] 55 (0, 0)) (by (with_reducible repeat (first | refine blk_drewN ?_ _ | refine blk_drew ?_ | refine blk_alloc ?_ _)); refine blk_far ?_ NB119_120.out _; (with_reducible repeat (first | refine blk_drewN ?_ _ | refine blk_drew ?_ | refine blk_alloc ?_ _)); exact BK119.out) hb); replace BK120 := aM (blk_below (g := gb120) (o := .cells #[.int .i64 a0_0, .int .i64 a0_1, .slice Ao13 t121.length co13, .int .i64 0, .int .i64 0, .int .i64 0] 55 (0, 0)) (by (with_reducible repeat (first | refine blk_drewN ?_ _ | refine blk_drew ?_ | refine blk_alloc ?_ _)); refine blk_put (cs := #[.int .i64 a0_0, .int .i64 a0_1, .slice none 0 0, .int .i64 0, .int .i64 0, .int .i64 0]) ?_ 2 _ rfl; (with_reducible repeat (first | refine blk_drewN ?_ _ | refine blk_drew ?_ | refine blk_alloc ?_ _)); exact BK120.out) hb); replace HB := aM (below_step TB hb); clear hb; obtain ⟨hcz17_0, hcz17_1, hcz17_2, hcz17_3, hcz17_4, hcz17_5⟩ := cz6 BK120.out; obtain ⟨hfz17_0, hfz17_1, hfz17_2, hfz17_3, hfz17_4, hfz17_5⟩ := fz6 BK120.out; obtain ⟨hcz18_0, hcz18_1, hcz18_2, hcz18_3, hcz18_4, hcz18_5⟩ := cz6 BK119.out; obtain ⟨hfz18_0, hfz18_1, hfz18_2, hfz18_3, hfz18_4, hfz18_5⟩ := fz6 BK119.out))
  refine bodyPost_ret (results_cell_row rfl _ _ gb119 55 #[.int .i64 a0_0, .int .i64 a0_1, .slice Ao13 t121.length co13, .int .i64 t124, .int .i64 t125, .int .i64 t126] (0, 0) _ rfl (by (with_reducible repeat (first | refine blk_drewN ?_ _ | refine blk_drew ?_ | refine blk_alloc ?_ _)); refine blk_put (cs := #[.int .i64 a0_0, .int .i64 a0_1, .slice Ao13 t121.length co13, .int .i64 t124, .int .i64 t125, .int .i64 0]) ?_ 5 _ rfl; (with_reducible repeat (first | refine blk_drewN ?_ _ | refine blk_drew ?_ | refine blk_alloc ?_ _)); refine blk_put (cs := #[.int .i64 a0_0, .int .i64 a0_1, .slice Ao13 t121.length co13, .int .i64 t124, .int .i64 0, .int .i64 0]) ?_ 4 _ rfl; (with_reducible repeat (first | refine blk_drewN ?_ _ | refine blk_drew ?_ | refine blk_alloc ?_ _)); refine blk_put (cs := #[.int .i64 a0_0, .int .i64 a0_1, .slice Ao13 t121.length co13, .int .i64 0, .int .i64 0, .int .i64 0]) ?_ 3 _ rfl; (with_reducible repeat (first | refine blk_drewN ?_ _ | refine blk_drew ?_ | refine blk_alloc ?_ _)); refine blk_put (cs := #[.int .i64 a0_0, .int .i64 a0_1, .slice none 0 0, .int .i64 0, .int .i64 0, .int .i64 0]) ?_ 2 _ rfl; (with_reducible repeat (first | refine blk_drewN ?_ _ | refine blk_drew ?_ | refine blk_alloc ?_ _)); refine blk_put (cs := #[.int .i64 a0_0, .int .i64 0, .slice none 0 0, .int .i64 0, .int .i64 0, .int .i64 0]) ?_ 1 _ rfl; (with_reducible repeat (first | refine blk_drewN ?_ _ | refine blk_drew ?_ | refine blk_alloc ?_ _)); refine blk_put (cs := #[.int .i64 0, .int .i64 0, .slice none 0 0, .int .i64 0, .int .i64 0, .int .i64 0]) ?_ 0 _ rfl; (with_reducible repeat (first | refine blk_drewN ?_ _ | refine blk_drew ?_ | refine blk_alloc ?_ _)); refine blk_far ?_ NB119_120.out _; (with_reducible repeat (first | refine blk_drewN ?_ _ | refine blk_drew ?_ | refine blk_alloc ?_ _)); refine blk_far ?_ NB119_120.out _; (with_reducible repeat (first | refine blk_drewN ?_ _ | refine blk_drew ?_ | refine blk_alloc ?_ _)); refine blk_far ?_ NB119_120.out _; (with_reducible repeat (first | refine blk_drewN ?_ _ | refine blk_drew ?_ | refine blk_alloc ?_ _)); exact BK119.out) Try.underlying55 rfl (by kernel_rfl)) rfl ?_
  exact ⟨_, by first | rfl | (simp [errW_none, errW_some] <;> rfl) | (simp [*, errW_none, errW_some] <;> rfl), by (with_reducible repeat (first | apply Kd.R_alloc | apply Kd.R_drewN | apply Kd.R_drew)); exact Kd.R_mono (Kd.R_far (p := ⟨gb119, 5, none⟩) (Kd.R_far (p := ⟨gb119, 4, none⟩) (Kd.R_far (p := ⟨gb119, 3, none⟩) (Kd.R_far (p := ⟨gb119, 2, none⟩) (Kd.R_far (p := ⟨gb119, 1, none⟩) (Kd.R_far (p := ⟨gb119, 0, none⟩) (Kd.R_far (p := ⟨gb120, 5, none⟩) (Kd.R_far (p := ⟨gb120, 4, none⟩) (Kd.R_far (p := ⟨gb120, 3, none⟩) (Kd.R_types (Kd.R_types HO123.out BK120.out (by decide)) BK119.out (by decide)) (fun _ hk => hk.1.2) (.int .i64 t124)) (fun _ hk => hk.1.2) (.int .i64 t125)) (fun _ hk => hk.1.2) (.int .i64 t126)) (fun _ hk => hk.2) (.int .i64 a0_0)) (fun _ hk => hk.2) (.int .i64 a0_1)) (fun _ hk => hk.2) (.slice Ao13 t121.length co13)) (fun _ hk => hk.2) (.int .i64 t124)) (fun _ hk => hk.2) (.int .i64 t125)) (fun _ hk => hk.2) (.int .i64 t126)) (fun _ hk => trivial), TB⟩

/-! ### laws_toPutS: function 58 -/
def laws_toPutS.l0 : Nat → List (S51) → List (S55) → Int → Option ((List (S55)))
  | 0, _, _, _ => none
  | k + 1, x0, x3, x4 => if x4 < (x0.length : Int) then (if 0 ≤ x4 then ((laws_toPut.f k ((rd_T51 x0 x4).f0) ((rd_T51 x0 x4).f1) ((rd_T51 x0 x4).f2) ((rd_T51 x0 x4).f3.f0) ((rd_T51 x0 x4).f3.f1) ((rd_T51 x0 x4).f3.f2)).bind fun bt131 => (if x4 < (x3.length : Int) then (laws_toPutS.l0 k x0 (x3.set (x4 : Int).toNat (⟨bt131.1, bt131.2.1, bt131.2.2.1, (⟨bt131.2.2.2.1, bt131.2.2.2.2.1, bt131.2.2.2.2.2⟩ : S30)⟩ : S55)) (wrap64 (x4 + 1))) else (none))) else (none)) else (some x3)
def laws_toPutS.f (k : Nat) (l0 : List (S51)) : Option ((List (S55))) := if 0 ≤ (l0.length : Int) then (if ((l0.length : Int) : Int).toNat ≤ 4398046511104 then (laws_toPutS.l0 k l0 (List.replicate ((l0.length : Int) : Int).toNat z55) 0) else (none)) else (none)
theorem laws_toPutS.mono_l : ∀ k, (∀ y0 y1 y2, LeO (laws_toPutS.l0 k y0 y1 y2) (laws_toPutS.l0 (k + 1) y0 y1 y2))
  | 0 => fun _ _ _ r h => by simp [laws_toPutS.l0] at h
  | k + 1 => by
    have m0_ := @laws_toPut.mono
    have ih0 := laws_toPutS.mono_l k
    · intro y0 y1 y2
      unfold laws_toPutS.l0
      exact LM
theorem laws_toPutS.mono : ∀ a0 k, LeO (laws_toPutS.f k a0) (laws_toPutS.f (k + 1) a0) := by
  intro a0 k
  have m0_ := @laws_toPut.mono
  have ih0 := laws_toPutS.mono_l k
  unfold laws_toPutS.f
  exact LM
set_option maxHeartbeats 40000000 in
set_option maxRecDepth 100000 in
theorem laws_toPutS.calls (k : Nat) (A0 : Option Addr) (c0 : Nat) (l0 : List (S51)) (r : List (S55)) (w : World) (hr0 : Kd.C k51 w A0 l0.length l0) (hc0 : l0.length ≤ c0) (h : laws_toPutS.f k l0 = some r) :
  Calls Try.prog 58 #[.slice A0 l0.length c0] w fun e w' => ∃ v0_ : Value, e = .returned (v0_) ∧ Kd.S k55 55 w' w.heap.size (fun _ => True) v0_ r ∧ Below w.heap.size w w' := by
 have hu51 := Try.underlying51
 have hu55 := Try.underlying55
 have HR0 := aM hr0
 have HC0 := aM hc0
 clear hr0 hc0
 have HB := aM (Below.refl w.heap.size w)
 have H := h
 clear h
 unfold laws_toPutS.f at H
 replace H := ifN H
 obtain ⟨c2, H⟩ := H
 have c2b0 := eq_true c2
 have c2b1 : decide (0 ≤ (l0.length : Int)) = true := decide_eq_true c2
 clear c2
 replace H := ifN H
 obtain ⟨c3, H⟩ := H
 have c3b0 := eq_true c3
 have c3b1 : decide (((l0.length : Int) : Int).toNat ≤ 4398046511104) = true := decide_eq_true c3
 clear c3
 obtain ⟨y127, au⟩ : ∃ y_ : List (S55), y_ = (List.replicate ((l0.length : Int) : Int).toNat z55) := ⟨_, rfl⟩
 rw [← au] at H
 have ay := aM au
 clear au
 have H' := aM H
 clear H
 go_enter Try.func58, Try.ntmps58
 go_wp2_with (first | ((with_reducible refine gate_dst (N := 7) rfl ?_); refine Kd.S_make k55 _ 55 rfl (N := 7) rfl 31 _ _ rfl (l0.length : Int) rfl rfl Try.underlying31 (.agg #[(.int .i64 0), (.int .i64 0), (.slice none 0 0), (.int .i64 0), (.int .i64 0), (.int .i64 0)]) 64 info55 rfl (by decide) (by omega) z55 (ok := fun _ => True) (okp := fun _ => True) (k55_mkM _ _ _ z55 (Kd.R_nil _ _ _ _ _)) (fun _ hk => hk) trivial DT (Nat.le_trans (Nat.mul_le_mul_right _ (DT : (l0.length : Int).toNat ≤ 4398046511104)) (by omega)) (Below.refl _ _) (Nat.le_refl _) ?_; intro v128 w4 ho5 hb hg_ hnew_; clear hg_ hnew_; (first | rw [← ay.out] at ho5 | (simp only [Int.reduceToNat] at ho5; rw [← ay.out] at ho5)); have HO129 := aM (Kd.S_lower ho5 (below_size TB)); replace HB := aM (below_step TB hb); clear hb ho5))
 go_loopg [4] k (fun kq v4 w' => ∃ (ab : List (S55)) (aa : Int), v4 = .int .i64 aa ∧ Aside0 (laws_toPutS.l0 kq l0 ab aa = some r) ∧ Aside0 (kq ≤ k) ∧ Aside0 (Kd.S k55 55 w' w.heap.size (fun _ => True) v128 ab) ∧ Aside0 (Below w.heap.size w w'))
 case atStart => exact ⟨(y127), (0), (by first | rfl | (simp; done) | (simp [*]; done)), H', ⟨Nat.le_refl _⟩, ⟨by have X_ := HO129.out; exact TS⟩, ⟨TB⟩⟩
 case round =>
  clear H'
  try clear c2
  try clear c2b0
  try clear c2b1
  try clear p2
  try clear c3
  try clear c3b0
  try clear c3b1
  try clear c5
  obtain ⟨ab, aa, rfl, HA, HK1, ac, HB⟩ := hrel
  cases gk with
  | zero => exact absurd HA.out (by simp [laws_toPutS.l0])
  | succ k1 =>
   have H := HA.out
   clear HA
   simp only [laws_toPutS.l0] at H
   by_cases c6 : aa < (l0.length : Int)
   ·rw [if_pos c6] at H
    have c6b0 : decide (aa < (l0.length : Int)) = true := decide_eq_true c6
    clear c6
    replace H := ifN H
    obtain ⟨c7, H⟩ := H
    have c7b0 : decide (0 ≤ aa) = true := decide_eq_true c7
    clear c7
    replace H := bE H
    obtain ⟨⟨ae, ak, aq, ah, af, an⟩, A8, H⟩ := H
    dsimp only at H
    replace H := ifN H
    obtain ⟨c9, H⟩ := H
    have c9b0 : decide (aa < (ab.length : Int)) = true := decide_eq_true c9
    clear c9
    obtain ⟨y139, av⟩ : ∃ y_ : List (S55), y_ = (ab.set (aa : Int).toNat (⟨ae, ak, aq, (⟨ah, af, an⟩ : S30)⟩ : S55)) := ⟨_, rfl⟩
    rw [← av] at H
    have Ny139 := aM av
    clear av
    have H' := aM H
    clear H
    have ax : 0 ≤ (aa : Int) := DT
    have aw : aa < (l0.length : Int) := DT
    obtain ⟨ad130, aB, aC, e130, al, ad, ag, ai, aj, am, ao, ap⟩ := at_T51 HR0.out aa ax aw
    cases e130
    replace al := (HB.out.cell (World.block_lt_of_cell? w _ al)).trans al
    replace ad := (HB.out.cell (World.block_lt_of_cell? w _ ad)).trans ad
    replace ag := (HB.out.cell (World.block_lt_of_cell? w _ ag)).trans ag
    replace ai := (HB.out.cell (World.block_lt_of_cell? w _ ai)).trans ai
    replace aj := (HB.out.cell (World.block_lt_of_cell? w _ aj)).trans aj
    replace am := (HB.out.cell (World.block_lt_of_cell? w _ am)).trans am
    have az := aM ap
    have aA := aM ao
    clear ap ao
    replace ax := eq_true ax
    replace aw := eq_true aw
    go_wp2_with (first | ((with_reducible refine gate_callee (f := 38) rfl ?_); refine gL (some 20) Try.func38 #[.agg #[.int .i64 ((rd_T51 l0 aa).f0), .int .i64 ((rd_T51 l0 aa).f1), .slice aB ((rd_T51 l0 aa).f2).length aC, .int .i64 ((rd_T51 l0 aa).f3.f0), .int .i64 ((rd_T51 l0 aa).f3.f1), .int .i64 ((rd_T51 l0 aa).f3.f2)]] ?_; (with_reducible refine (laws_toPut.calls k1 ((rd_T51 l0 aa).f0) ((rd_T51 l0 aa).f1) _ _ ((rd_T51 l0 aa).f2) ((rd_T51 l0 aa).f3.f0) ((rd_T51 l0 aa).f3.f1) ((rd_T51 l0 aa).f3.f2) ae ak aq ah af an _ ?side1 ?side2 A8.out).mono ?_); (case side1 => have X_ := (Kd.C_below az.out HB.out); exact TC); (case side2 => exact aA.out); rintro e w11 ⟨ar, rfl, ho0, hb⟩; refine ⟨_, rfl, ?_⟩; have HO135 := aM (Kd.R_lower ho0 (below_size TB)); replace ac := aM (Kd.S_elder' (by have X_ := ac.out; exact TS) (Kd.R_base ho0) hb); replace HB := aM (below_step TB hb); clear ho0 hb; have p10 : 0 ≤ (aa : Int) := DT; have q10 : (aa : Int) < ((ab.length : Int) : Int) := DT; obtain ⟨go10, co10, eo10, gb10, gl10, cl10, HG10⟩ := Kd.S_form ac.out (by omega); (first | cases eo10 | (injection eo10 with ea_ en_ ec_; (first | subst ea_ | (injection ea_ with ea_; subst ea_)); subst ec_; clear en_)); have GB10 := aM gb10; have GG10 := aM HG10; clear gb10 gl10 HG10; obtain ⟨_, ce10, hcl10, hM10, hcc10, hfr10, _, _⟩ := Kd.S_elem ac.out z55 (aa : Int) p10 q10; obtain ⟨ve10_2, rfl, ge10_2⟩ := k55_openM hM10; have hx10_0 : w11.cell? ⟨go10, (aa : Int).toNat * 6, none⟩ = some (.int .i64 ((rd_T55 ab aa).f0)) := hcc10 0 _ rfl; have hx10_1 : w11.cell? ⟨go10, (aa : Int).toNat * 6 + 1, none⟩ = some (.int .i64 ((rd_T55 ab aa).f1)) := hcc10 1 _ rfl; have hx10_2 : w11.cell? ⟨go10, (aa : Int).toNat * 6 + 2, none⟩ = some (ve10_2) := hcc10 2 _ rfl; have hx10_3 : w11.cell? ⟨go10, (aa : Int).toNat * 6 + 3, none⟩ = some (.int .i64 ((rd_T55 ab aa).f3.f0)) := hcc10 3 _ rfl; have hx10_4 : w11.cell? ⟨go10, (aa : Int).toNat * 6 + 4, none⟩ = some (.int .i64 ((rd_T55 ab aa).f3.f1)) := hcc10 4 _ rfl; have hx10_5 : w11.cell? ⟨go10, (aa : Int).toNat * 6 + 5, none⟩ = some (.int .i64 ((rd_T55 ab aa).f3.f2)) := hcc10 5 _ rfl; have hf10_0 : w11.frozen? ⟨go10, (aa : Int).toNat * 6, none⟩ = false := hfr10 0; have hf10_1 : w11.frozen? ⟨go10, (aa : Int).toNat * 6 + 1, none⟩ = false := hfr10 1; have hf10_2 : w11.frozen? ⟨go10, (aa : Int).toNat * 6 + 2, none⟩ = false := hfr10 2; have hf10_3 : w11.frozen? ⟨go10, (aa : Int).toNat * 6 + 3, none⟩ = false := hfr10 3; have hf10_4 : w11.frozen? ⟨go10, (aa : Int).toNat * 6 + 4, none⟩ = false := hfr10 4; have hf10_5 : w11.frozen? ⟨go10, (aa : Int).toNat * 6 + 5, none⟩ = false := hfr10 5; clear hcl10 hcc10 hfr10 hM10; replace p10 := eq_true p10; replace q10 := eq_true q10; have n_ := aM (Kd.S_mono (ok' := (fun k_ => some k_ ≠ (ar : Value).ownBlock)) ac.out (fun k_ hk => hk.2)); clear ac; have ac := n_; clear n_; have HX12 := aM (show Kd.S k55 55 w11 w.heap.size (fun k_ => ((fun _ => True)) k_ ∧ ¬ ((fun k_ => some k_ = (ar : Value).ownBlock)) k_) (.slice (some ⟨go10, 0, none⟩) ab.length co10) ab from (by (with_reducible repeat (first | apply Kd.S_alloc | apply Kd.S_drewN | apply Kd.S_drew)); exact Kd.S_mono ac.out (fun k_ hk => ⟨trivial, fun e_ => hk e_⟩))); obtain ⟨oki12, ce12, hcl12, hM12, hcc12, hfr12, hoki12, hH12⟩ := Kd.S_elem HX12.out z55 (aa : Int) DT (by have h_ : (aa : Int) < ((ab.length : Int) : Int) := DT; first | exact h_ | (have e_ := (Kd.S_reads' ac.out).1; omega) | simpa using h_); obtain ⟨ve12_2, rfl, ge12_2⟩ := k55_openM hM12; have HP12 := Kd.S_seg hH12 DT (by have h_ : (aa : Int) < ((ab.length : Int) : Int) := DT; first | exact h_ | (have e_ := (Kd.S_reads' ac.out).1; omega) | simpa using h_) (seg := [.int .i64 ae, .int .i64 ak, ar, .int .i64 ah, .int .i64 af, .int .i64 an]) (j := 0) (show 6 ≤ 6 from by decide) (x' := (⟨ae, ak, aq, (⟨ah, af, an⟩ : S30)⟩ : S55)) (k55_mkM _ _ _ (⟨ae, ak, aq, (⟨ah, af, an⟩ : S30)⟩ : S55) (Kd.R_mono (Kd.R_tight rfl (Kd.R_mono (ok' := fun k_ => ((fun _ => True)) k_ ∧ k_ ≠ go10) (Kd.R_apart' (HO135.out) (Kd.S_typed ac.out) (by decide)) (fun k_ hk => ⟨trivial, fun e_ => (hk.2) (by rw [e_]; rfl)⟩))) (fun _ h_ => Or.inr (h_)))) (fun _ hk => hk) (fun k_ hk_ => ((Kd.R_mono (ok' := fun k_ => ((fun _ => True)) k_ ∧ k_ ≠ go10) (Kd.R_apart' (HO135.out) (Kd.S_typed ac.out) (by decide)) (fun k_ hk => ⟨trivial, fun e_ => (hk.2) (by rw [e_]; rfl)⟩))).1 k_ hk_.symm); have hx12_0 := hcc12 0 _ rfl; (try simp only [show (k55).sz = 6 from rfl, Nat.mul_one, Nat.add_zero] at hx12_0); have hf12_0 := hfr12 0; (try simp only [show (k55).sz = 6 from rfl, Nat.mul_one, Nat.add_zero] at hf12_0); have hx12_1 := hcc12 1 _ rfl; (try simp only [show (k55).sz = 6 from rfl, Nat.mul_one, Nat.add_zero] at hx12_1); have hf12_1 := hfr12 1; (try simp only [show (k55).sz = 6 from rfl, Nat.mul_one, Nat.add_zero] at hf12_1); have hx12_2 := hcc12 2 _ rfl; (try simp only [show (k55).sz = 6 from rfl, Nat.mul_one, Nat.add_zero] at hx12_2); have hf12_2 := hfr12 2; (try simp only [show (k55).sz = 6 from rfl, Nat.mul_one, Nat.add_zero] at hf12_2); have hx12_3 := hcc12 3 _ rfl; (try simp only [show (k55).sz = 6 from rfl, Nat.mul_one, Nat.add_zero] at hx12_3); have hf12_3 := hfr12 3; (try simp only [show (k55).sz = 6 from rfl, Nat.mul_one, Nat.add_zero] at hf12_3); have hx12_4 := hcc12 4 _ rfl; (try simp only [show (k55).sz = 6 from rfl, Nat.mul_one, Nat.add_zero] at hx12_4); have hf12_4 := hfr12 4; (try simp only [show (k55).sz = 6 from rfl, Nat.mul_one, Nat.add_zero] at hf12_4); have hx12_5 := hcc12 5 _ rfl; (try simp only [show (k55).sz = 6 from rfl, Nat.mul_one, Nat.add_zero] at hx12_5); have hf12_5 := hfr12 5; (try simp only [show (k55).sz = 6 from rfl, Nat.mul_one, Nat.add_zero] at hf12_5); clear hcl12 hcc12 hfr12 hM12 hoki12 hH12) | ((with_reducible refine gate_store (t := 55) (p := 21) rfl ?_); refine store_event (t := 55) (p := 21) (v := ?vo_w13) (w1 := ((((((w11.setCell ⟨go10, (aa : Int).toNat * 6, none⟩ (.int .i64 ae)).setCell ⟨go10, (aa : Int).toNat * 6 + 1, none⟩ (.int .i64 ak)).setCell ⟨go10, (aa : Int).toNat * 6 + 2, none⟩ (ar)).setCell ⟨go10, (aa : Int).toNat * 6 + 3, none⟩ (.int .i64 ah)).setCell ⟨go10, (aa : Int).toNat * 6 + 4, none⟩ (.int .i64 af)).setCell ⟨go10, (aa : Int).toNat * 6 + 5, none⟩ (.int .i64 an))) ?hg ?ho ?hn ?hr ?_; (case ho => rfl); (case hg => rfl); (case hn => rfl); (case hr => first | (go_simp; done) | (obtain ⟨_, _, hv_⟩ := Kd.R_slice HO135.out; subst hv_; first | (go_simp; done) | (go_simp; rfl)) | (go_simp; rfl)); intro w13 hw; have hg : w11.grownBy w13 (some go10) := (by rw [hw]; exact HP12.2); have hp_ : Kd.S k55 55 w13 w.heap.size (fun _ => True) (.slice (some ⟨go10, 0, none⟩) ab.length co10) y139 := (by rw [hw, Ny139.out]; exact HP12.1); clear HP12; replace ac := aM (hp_); replace HB := aM ((by rw [hw]; exact below_set (below_set (below_set (below_set (below_set (below_set (HB.out) GB10.out) GB10.out) GB10.out) GB10.out) GB10.out) GB10.out : Below w.heap.size w w13)); clear HO135; clear hg hw hp_))
    go_roundg k1
    case measure => have := HK1.out; omega
    case rel => exact ⟨(y139), (wrap64 (aa + 1)), (by first | rfl | (simp; done) | (simp [*]; done)), H', ⟨by have := HK1.out; omega⟩, ⟨by have X_ := ac.out; exact TS⟩, ⟨TB⟩⟩
   ·rw [if_neg c6] at H
    have c6b0 : decide (aa < (l0.length : Int)) = false := decide_eq_false c6
    clear c6
    obtain rfl := Option.some.inj H
    go_wp2
    go_ret
    exact ⟨_, by first | rfl | (simp [errW_none, errW_some] <;> rfl) | (simp [*, errW_none, errW_some] <;> rfl), by have X_ := ac.out; exact TS, TB⟩

end Go.Proofs.Ytogilihkphjjbaa.Q
