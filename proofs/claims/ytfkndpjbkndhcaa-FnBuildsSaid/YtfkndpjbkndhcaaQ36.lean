/- Functions of the program as plain Lean functions, and that a call of each comes to what its function tells. Written by a program of this seat. -/
import Derived.Test.YtfkndpjbkndhcaaQ0
import Derived.Test.YtfkndpjbkndhcaaQ35
namespace Go.Proofs.Ytfkndpjbkndhcaa.Q
open Go.RowKit Go.Proofs.YtfkndpjbkndhcaaW.PrintWords Go.Proofs.YtfkndpjbkndhcaaW.PrintLast Go.Proofs.YtfkndpjbkndhcaaW.PrintMore
attribute [local go_sem] max2_int min2_int max_two min_two max_three min_three max_four min_four   -- for this text's walks alone
set_option linter.unusedVariables false
set_option linter.unusedSimpArgs false

/-! ### spec_BuildNew: function 53 -/
def spec_BuildNew.f (k : Nat) (a0_0 : Int) (a0_1 : Int) (a0_2 : Int) (l0_3 : List (S48)) : Option (Int × List Int) := (spec_ManOk.f k a0_0 a0_1 a0_2 l0_3).bind fun t786 => (if t786 = true then (if 0 ≤ a0_2 then (if (a0_2 : Int).toNat ≤ 281474976710656 then (some (0, (List.replicate (a0_2 : Int).toNat 0))) else (none)) else (none)) else (some (0, ([] : List Int))))
theorem spec_BuildNew.mono : ∀ a0 a1 a2 a3 k, LeO (spec_BuildNew.f k a0 a1 a2 a3) (spec_BuildNew.f (k + 1) a0 a1 a2 a3) := by
  intro a0 a1 a2 a3 k
  have m0_ := @spec_ManOk.mono
  unfold spec_BuildNew.f
  exact LM
set_option maxHeartbeats 40000000 in
set_option maxRecDepth 100000 in
theorem spec_BuildNew.calls (k : Nat) (a0_0 : Int) (a0_1 : Int) (a0_2 : Int) (A0_3 : Option Addr) (c0_3 : Nat) (l0_3 : List (S48)) (r1 : Int) (r2 : List Int) (w : World) (hr0_3 : Kd.C k48 w A0_3 l0_3.length l0_3) (hc0_3 : l0_3.length ≤ c0_3) (h : spec_BuildNew.f k a0_0 a0_1 a0_2 l0_3 = some (r1, r2)) :
    Calls Try.prog 53 #[.agg #[.int .i64 a0_0, .int .i64 a0_1, .int .i64 a0_2, .slice A0_3 l0_3.length c0_3]] w fun e w' => ∃ v1_ : Value, e = .returned (.agg #[.int .i64 r1, v1_]) ∧ Kd.R (Kd.int .u8) 5 w' w.heap.size (fun _ => True) v1_ r2 ∧ Below w.heap.size w w' := by
  have hu28 := Try.underlying28
  have hu31 := Try.underlying31
  have HR0_3 := aM hr0_3
  have HC0_3 := aM hc0_3
  clear hr0_3 hc0_3
  have HB := aM (Below.refl w.heap.size w)
  have H := h
  clear h
  unfold spec_BuildNew.f at H
  replace H := bE H
  obtain ⟨t786, A2, H⟩ := H
  go_enter Try.func53, Try.ntmps53
  go_wp2_with (first | ((with_reducible refine gate_dst (N := 1) rfl ?_); refine gBx 1 #[.int .i64 a0_0, .int .i64 a0_1, .int .i64 a0_2, .slice A0_3 l0_3.length c0_3] 28 ?_; intro gb784 hg w4 hbox hb; have BK784 := aM (hbox); have GW784 := aM ((by rw [hg]; exact (below_size TB) : w.heap.size ≤ gb784)); have GE784 := aM ((by rw [hg]; exact (below_size TB) : w.heap.size ≤ gb784)); replace HB := aM (below_step TB hb); clear hb hbox hg) | ((with_reducible refine gate_dst (N := 2) rfl ?_); refine gBx 2 #[.int .i64 0, .slice none 0 0] 31 ?_; intro gb785 hg w5 hbox hb; have BK785 := aM (hbox); have GW785 := aM ((by rw [hg]; exact (below_size TB) : w.heap.size ≤ gb785)); have GE785 := aM ((by rw [hg]; exact (below_size TB) : w.heap.size ≤ gb785)); have NB784_785 := aM ((by rw [hg]; exact Nat.ne_of_lt (blk_lt (by have X_ := BK784.out; exact TX)) : gb784 ≠ gb785)); have NB785_784 := aM ((by rw [hg]; exact Nat.ne_of_gt (blk_lt (by have X_ := BK784.out; exact TX)) : gb785 ≠ gb784)); replace BK784 := aM (blk_below (by have X_ := BK784.out; exact TX) hb); replace HB := aM (below_step TB hb); clear hb hbox hg; have hnb6 := NB784_785.out; have hnc6 := NB785_784.out; obtain ⟨hcz7_0, hcz7_1, hcz7_2, hcz7_3⟩ := cz4 BK784.out; obtain ⟨hfz7_0, hfz7_1, hfz7_2, hfz7_3⟩ := fz4 BK784.out) | ((with_reducible refine gate_callee (f := 92) rfl ?_); (with_reducible refine gate_dst (N := 4) rfl ?_); generalize hG_ : wpList _ _ _ _ _ _ = G_))
  subst hG_
  by_cases c8 : t786 = true
  · subst c8
    replace H := ifT H
    replace H := ifN H
    obtain ⟨c9, H⟩ := H
    have c9b0 := eq_true c9
    have c9b1 : decide (0 ≤ a0_2) = true := decide_eq_true c9
    clear c9
    replace H := ifN H
    obtain ⟨c10, H⟩ := H
    have c10b0 := eq_true c10
    have c10b1 : decide ((a0_2 : Int).toNat ≤ 281474976710656) = true := decide_eq_true c10
    clear c10
    obtain ⟨y787, hy787⟩ : ∃ y_ : List Int, y_ = (List.replicate (a0_2 : Int).toNat 0) := ⟨_, rfl⟩
    rw [← hy787] at H
    have Ny787 := aM hy787
    clear hy787
    simp only [Option.some.injEq, Prod.mk.injEq] at H
    obtain ⟨rfl, rfl⟩ := H
    go_wp2_with (first | ((with_reducible refine gate_callee (f := 92) rfl ?_); refine gL (some 4) Try.func92 #[.agg #[.int .i64 a0_0, .int .i64 a0_1, .int .i64 a0_2, .slice A0_3 l0_3.length c0_3]] ?_; (with_reducible refine (spec_ManOk.calls k a0_0 a0_1 a0_2 _ _ l0_3 true _ ?side1 ?side2 A2.out).mono ?_); (case side1 => repeat (first | exact (Kd.C_below HR0_3.out TB) | (with_reducible refine Kd.C_alloc ?_ _) | (with_reducible refine Kd.C_drewN ?_ _) | (with_reducible refine Kd.C_drew ?_))); (case side2 => exact HC0_3.out); rintro e w11 ⟨rfl, hb⟩; refine ⟨_, rfl, ?_⟩; replace BK784 := aM (blk_below (by have X_ := BK784.out; exact TX) hb); replace BK785 := aM (blk_below (by have X_ := BK785.out; exact TX) hb); replace HB := aM (below_step TB hb); clear hb; have hnb12 := NB784_785.out; have hnc12 := NB785_784.out; obtain ⟨hcz13_0, hcz13_1, hcz13_2, hcz13_3⟩ := cz4 BK784.out; obtain ⟨hfz13_0, hfz13_1, hfz13_2, hfz13_3⟩ := fz4 BK784.out) | ((with_reducible refine gate_dst (N := 9) rfl ?_); refine Kd.R_make (Kd.int .u8) _ 5 rfl (N := 9) rfl 22 _ _ rfl a0_2 rfl rfl Try.underlying22 (.int .u8 0) 1 info5 rfl (by decide) (by omega) 0 (ok := fun _ => True) (okp := fun _ => True) rfl (fun _ hk => hk) trivial DT (Nat.le_trans (Nat.mul_le_mul_right _ (DT : a0_2.toNat ≤ 281474976710656)) (by omega)) (Below.refl _ _) (Nat.le_refl _) ?_; intro v788 w14 ho15 hb hg_ hnew_; clear hg_ hnew_; (first | rw [← Ny787.out] at ho15 | (simp only [Int.reduceToNat] at ho15; rw [← Ny787.out] at ho15)); have HO789 := aM (Kd.R_lower ho15 (below_size TB)); replace BK784 := aM (blk_below (by have X_ := BK784.out; exact TX) hb); replace BK785 := aM (blk_below (by have X_ := BK785.out; exact TX) hb); replace HB := aM (below_step TB hb); clear hb ho15; obtain ⟨Ao16, co16, eo16⟩ := Kd.R_slice HO789.out; subst eo16; obtain ⟨hcz17_0, hcz17_1⟩ := cz2 BK785.out; obtain ⟨hfz17_0, hfz17_1⟩ := fz2 BK785.out))
    refine bodyPost_ret (results_cell_row rfl _ _ gb785 31 #[.int .i64 0, .slice Ao16 y787.length co16] (0, 0) _ rfl (by (with_reducible repeat (first | refine blk_drewN ?_ _ | refine blk_drew ?_ | refine blk_alloc ?_ _)); refine blk_put (cs := #[.int .i64 0, .slice none 0 0]) ?_ 1 _ rfl; (with_reducible repeat (first | refine blk_drewN ?_ _ | refine blk_drew ?_ | refine blk_alloc ?_ _)); refine blk_put (cs := #[.int .i64 0, .slice none 0 0]) ?_ 0 _ rfl; (with_reducible repeat (first | refine blk_drewN ?_ _ | refine blk_drew ?_ | refine blk_alloc ?_ _)); exact BK785.out) Try.underlying31 rfl (by kernel_rfl)) rfl ?_
    exact ⟨_, by first | rfl | (simp [errW_none, errW_some] <;> rfl) | (simp [*, errW_none, errW_some] <;> rfl), by (with_reducible repeat (first | apply Kd.R_alloc | apply Kd.R_drewN | apply Kd.R_drew)); exact Kd.R_mono (Kd.R_far (p := ⟨gb785, 1, none⟩) (Kd.R_far (p := ⟨gb785, 0, none⟩) (Kd.R_types HO789.out BK785.out (by decide)) (fun _ hk => hk.2) (.int .i64 0)) (fun _ hk => hk.2) (.slice Ao16 y787.length co16)) (fun _ hk => trivial), TB⟩
  · replace c8 := Bool.eq_false_iff.mpr c8
    subst c8
    replace H := ifF H
    simp only [Option.some.injEq, Prod.mk.injEq] at H
    obtain ⟨rfl, rfl⟩ := H
    go_wp2_with (first | ((with_reducible refine gate_callee (f := 92) rfl ?_); refine gL (some 4) Try.func92 #[.agg #[.int .i64 a0_0, .int .i64 a0_1, .int .i64 a0_2, .slice A0_3 l0_3.length c0_3]] ?_; (with_reducible refine (spec_ManOk.calls k a0_0 a0_1 a0_2 _ _ l0_3 false _ ?side1 ?side2 A2.out).mono ?_); (case side1 => repeat (first | exact (Kd.C_below HR0_3.out TB) | (with_reducible refine Kd.C_alloc ?_ _) | (with_reducible refine Kd.C_drewN ?_ _) | (with_reducible refine Kd.C_drew ?_))); (case side2 => exact HC0_3.out); rintro e w18 ⟨rfl, hb⟩; refine ⟨_, rfl, ?_⟩; replace BK784 := aM (blk_below (by have X_ := BK784.out; exact TX) hb); replace BK785 := aM (blk_below (by have X_ := BK785.out; exact TX) hb); replace HB := aM (below_step TB hb); clear hb; have hnb19 := NB785_784.out; have hnc19 := NB784_785.out; obtain ⟨hcz20_0, hcz20_1⟩ := cz2 BK785.out; obtain ⟨hfz20_0, hfz20_1⟩ := fz2 BK785.out))
    refine bodyPost_ret (results_cell_row rfl _ _ gb785 31 #[.int .i64 0, .slice none 0 0] (0, 0) _ rfl (by (with_reducible repeat (first | refine blk_drewN ?_ _ | refine blk_drew ?_ | refine blk_alloc ?_ _)); refine blk_put (cs := #[.int .i64 0, .slice none 0 0]) ?_ 1 _ rfl; (with_reducible repeat (first | refine blk_drewN ?_ _ | refine blk_drew ?_ | refine blk_alloc ?_ _)); refine blk_put (cs := #[.int .i64 0, .slice none 0 0]) ?_ 0 _ rfl; (with_reducible repeat (first | refine blk_drewN ?_ _ | refine blk_drew ?_ | refine blk_alloc ?_ _)); exact BK785.out) Try.underlying31 rfl (by kernel_rfl)) rfl ?_
    exact ⟨_, by first | rfl | (simp [errW_none, errW_some] <;> rfl) | (simp [*, errW_none, errW_some] <;> rfl), by first | exact Kd.R_nil _ _ _ _ _ | exact Kd.N_nil _ _ _ _ _ | exact Kd.V_nil _ _ _ _ _ | exact Kd.Q_nil _ _ _ _ _ | exact Kd.S_nil _ _ _ _ _, TB⟩

end Go.Proofs.Ytfkndpjbkndhcaa.Q
