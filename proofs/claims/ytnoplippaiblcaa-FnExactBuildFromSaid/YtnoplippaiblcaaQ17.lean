/- Functions of the program as plain Lean functions, and that a call of each comes to what its function tells. Written by a program of this seat. -/
import Derived.Test.YtnoplippaiblcaaQ0
import Derived.Test.YtnoplippaiblcaaQ16
namespace Go.Proofs.Ytnoplippaiblcaa.Q
open Go.RowKit Go.Proofs.YtnoplippaiblcaaW.PrintWords Go.Proofs.YtnoplippaiblcaaW.PrintLast Go.Proofs.YtnoplippaiblcaaW.PrintMore
attribute [local go_sem] max2_int min2_int max_two min_two max_three min_three max_four min_four   -- for this text's walks alone
set_option linter.unusedVariables false
set_option linter.unusedSimpArgs false

/-! ### impl_BuildNew: function 20 -/
def impl_BuildNew.f (k : Nat) (a0_0 : Int) (a0_1 : Int) (a0_2 : Int) (l0_3 : List (S72)) : Option (Int × List Int) := (impl_ManOk.f k a0_0 a0_1 a0_2 l0_3).bind fun t288 => (if t288 = true then (if 0 ≤ a0_2 then (if (a0_2 : Int).toNat ≤ 281474976710656 then (some (0, (List.replicate (a0_2 : Int).toNat 0))) else (none)) else (none)) else (some (0, ([] : List Int))))
theorem impl_BuildNew.mono : ∀ a0 a1 a2 a3 k, LeO (impl_BuildNew.f k a0 a1 a2 a3) (impl_BuildNew.f (k + 1) a0 a1 a2 a3) := by
  intro a0 a1 a2 a3 k
  have m0_ := @impl_ManOk.mono
  unfold impl_BuildNew.f
  exact LM
set_option maxHeartbeats 40000000 in
set_option maxRecDepth 100000 in
theorem impl_BuildNew.calls (k : Nat) (a0_0 : Int) (a0_1 : Int) (a0_2 : Int) (A0_3 : Option Addr) (c0_3 : Nat) (l0_3 : List (S72)) (r1 : Int) (r2 : List Int) (w : World) (hr0_3 : Kd.C k72 w A0_3 l0_3.length l0_3) (hc0_3 : l0_3.length ≤ c0_3) (h : impl_BuildNew.f k a0_0 a0_1 a0_2 l0_3 = some (r1, r2)) :
    Calls Try.prog 20 #[.agg #[.int .i64 a0_0, .int .i64 a0_1, .int .i64 a0_2, .slice A0_3 l0_3.length c0_3]] w fun e w' => ∃ v1_ : Value, e = .returned (.agg #[.int .i64 r1, v1_]) ∧ Kd.R (Kd.int .u8) 5 w' w.heap.size (fun _ => True) v1_ r2 ∧ Below w.heap.size w w' := by
  have hu33 := Try.underlying33
  have hu35 := Try.underlying35
  have HR0_3 := aM hr0_3
  have HC0_3 := aM hc0_3
  clear hr0_3 hc0_3
  have HB := aM (Below.refl w.heap.size w)
  have H := h
  clear h
  unfold impl_BuildNew.f at H
  replace H := bE H
  obtain ⟨t288, A2, H⟩ := H
  go_enter Try.func20, Try.ntmps20
  go_wp2_with (first | ((with_reducible refine gate_dst (N := 1) rfl ?_); refine gBx 1 #[.int .i64 a0_0, .int .i64 a0_1, .int .i64 a0_2, .slice A0_3 l0_3.length c0_3] 33 ?_; intro gb286 hg w4 hbox hb; have BK286 := aM (hbox); have GW286 := aM ((by rw [hg]; exact (below_size TB) : w.heap.size ≤ gb286)); have GE286 := aM ((by rw [hg]; exact (below_size TB) : w.heap.size ≤ gb286)); replace HB := aM (below_step TB hb); clear hb hbox hg) | ((with_reducible refine gate_dst (N := 2) rfl ?_); refine gBx 2 #[.int .i64 0, .slice none 0 0] 35 ?_; intro gb287 hg w5 hbox hb; have BK287 := aM (hbox); have GW287 := aM ((by rw [hg]; exact (below_size TB) : w.heap.size ≤ gb287)); have GE287 := aM ((by rw [hg]; exact (below_size TB) : w.heap.size ≤ gb287)); have NB286_287 := aM ((by rw [hg]; exact Nat.ne_of_lt (blk_lt (by have X_ := BK286.out; exact TX)) : gb286 ≠ gb287)); have NB287_286 := aM ((by rw [hg]; exact Nat.ne_of_gt (blk_lt (by have X_ := BK286.out; exact TX)) : gb287 ≠ gb286)); replace BK286 := aM (blk_below (by have X_ := BK286.out; exact TX) hb); replace HB := aM (below_step TB hb); clear hb hbox hg; have hnb6 := NB286_287.out; have hnc6 := NB287_286.out; obtain ⟨hcz7_0, hcz7_1, hcz7_2, hcz7_3⟩ := cz4 BK286.out; obtain ⟨hfz7_0, hfz7_1, hfz7_2, hfz7_3⟩ := fz4 BK286.out) | ((with_reducible refine gate_callee (f := 49) rfl ?_); (with_reducible refine gate_dst (N := 4) rfl ?_); generalize hG_ : wpList _ _ _ _ _ _ = G_))
  subst hG_
  by_cases c8 : t288 = true
  · subst c8
    replace H := ifT H
    replace H := ifN H
    obtain ⟨c9, H⟩ := H
    have c9b0 := eq_true c9
    have c9b1 : decide (0 ≤ a0_2) = true := decide_eq_true c9
    clear c9
    replace H := ifN H
    obtain ⟨c10, H⟩ := H
    have c10b0 := eq_true c10
    have c10b1 : decide ((a0_2 : Int).toNat ≤ 281474976710656) = true := decide_eq_true c10
    clear c10
    obtain ⟨y289, hy289⟩ : ∃ y_ : List Int, y_ = (List.replicate (a0_2 : Int).toNat 0) := ⟨_, rfl⟩
    rw [← hy289] at H
    have Ny289 := aM hy289
    clear hy289
    simp only [Option.some.injEq, Prod.mk.injEq] at H
    obtain ⟨rfl, rfl⟩ := H
    go_wp2_with (first | ((with_reducible refine gate_callee (f := 49) rfl ?_); refine gL (some 4) Try.func49 #[.agg #[.int .i64 a0_0, .int .i64 a0_1, .int .i64 a0_2, .slice A0_3 l0_3.length c0_3]] ?_; (with_reducible refine (impl_ManOk.calls k a0_0 a0_1 a0_2 _ _ l0_3 true _ ?side1 ?side2 A2.out).mono ?_); (case side1 => repeat (first | exact (Kd.C_below HR0_3.out TB) | (with_reducible refine Kd.C_alloc ?_ _) | (with_reducible refine Kd.C_drewN ?_ _) | (with_reducible refine Kd.C_drew ?_))); (case side2 => exact HC0_3.out); rintro e w11 ⟨rfl, hb⟩; refine ⟨_, rfl, ?_⟩; replace BK286 := aM (blk_below (by have X_ := BK286.out; exact TX) hb); replace BK287 := aM (blk_below (by have X_ := BK287.out; exact TX) hb); replace HB := aM (below_step TB hb); clear hb; have hnb12 := NB286_287.out; have hnc12 := NB287_286.out; obtain ⟨hcz13_0, hcz13_1, hcz13_2, hcz13_3⟩ := cz4 BK286.out; obtain ⟨hfz13_0, hfz13_1, hfz13_2, hfz13_3⟩ := fz4 BK286.out) | ((with_reducible refine gate_dst (N := 9) rfl ?_); refine Kd.R_make (Kd.int .u8) _ 5 rfl (N := 9) rfl 25 _ _ rfl a0_2 rfl rfl Try.underlying25 (.int .u8 0) 1 info5 rfl (by decide) (by omega) 0 (ok := fun _ => True) (okp := fun _ => True) rfl (fun _ hk => hk) trivial DT (Nat.le_trans (Nat.mul_le_mul_right _ (DT : a0_2.toNat ≤ 281474976710656)) (by omega)) (Below.refl _ _) (Nat.le_refl _) ?_; intro v290 w14 ho15 hb hg_ hnew_; clear hg_ hnew_; (first | rw [← Ny289.out] at ho15 | (simp only [Int.reduceToNat] at ho15; rw [← Ny289.out] at ho15)); have HO291 := aM (Kd.R_lower ho15 (below_size TB)); replace BK286 := aM (blk_below (by have X_ := BK286.out; exact TX) hb); replace BK287 := aM (blk_below (by have X_ := BK287.out; exact TX) hb); replace HB := aM (below_step TB hb); clear hb ho15; obtain ⟨Ao16, co16, eo16⟩ := Kd.R_slice HO291.out; subst eo16; obtain ⟨hcz17_0, hcz17_1⟩ := cz2 BK287.out; obtain ⟨hfz17_0, hfz17_1⟩ := fz2 BK287.out))
    refine bodyPost_ret (results_cell_row rfl _ _ gb287 35 #[.int .i64 0, .slice Ao16 y289.length co16] (0, 0) _ rfl (by (with_reducible repeat (first | refine blk_drewN ?_ _ | refine blk_drew ?_ | refine blk_alloc ?_ _)); refine blk_put (cs := #[.int .i64 0, .slice none 0 0]) ?_ 1 _ rfl; (with_reducible repeat (first | refine blk_drewN ?_ _ | refine blk_drew ?_ | refine blk_alloc ?_ _)); refine blk_put (cs := #[.int .i64 0, .slice none 0 0]) ?_ 0 _ rfl; (with_reducible repeat (first | refine blk_drewN ?_ _ | refine blk_drew ?_ | refine blk_alloc ?_ _)); exact BK287.out) Try.underlying35 rfl (by kernel_rfl)) rfl ?_
    exact ⟨_, by first | rfl | (simp [errW_none, errW_some] <;> rfl) | (simp [*, errW_none, errW_some] <;> rfl), by (with_reducible repeat (first | apply Kd.R_alloc | apply Kd.R_drewN | apply Kd.R_drew)); exact Kd.R_mono (Kd.R_far (p := ⟨gb287, 1, none⟩) (Kd.R_far (p := ⟨gb287, 0, none⟩) (Kd.R_types HO291.out BK287.out (by decide)) (fun _ hk => hk.2) (.int .i64 0)) (fun _ hk => hk.2) (.slice Ao16 y289.length co16)) (fun _ hk => trivial), TB⟩
  · replace c8 := Bool.eq_false_iff.mpr c8
    subst c8
    replace H := ifF H
    simp only [Option.some.injEq, Prod.mk.injEq] at H
    obtain ⟨rfl, rfl⟩ := H
    go_wp2_with (first | ((with_reducible refine gate_callee (f := 49) rfl ?_); refine gL (some 4) Try.func49 #[.agg #[.int .i64 a0_0, .int .i64 a0_1, .int .i64 a0_2, .slice A0_3 l0_3.length c0_3]] ?_; (with_reducible refine (impl_ManOk.calls k a0_0 a0_1 a0_2 _ _ l0_3 false _ ?side1 ?side2 A2.out).mono ?_); (case side1 => repeat (first | exact (Kd.C_below HR0_3.out TB) | (with_reducible refine Kd.C_alloc ?_ _) | (with_reducible refine Kd.C_drewN ?_ _) | (with_reducible refine Kd.C_drew ?_))); (case side2 => exact HC0_3.out); rintro e w18 ⟨rfl, hb⟩; refine ⟨_, rfl, ?_⟩; replace BK286 := aM (blk_below (by have X_ := BK286.out; exact TX) hb); replace BK287 := aM (blk_below (by have X_ := BK287.out; exact TX) hb); replace HB := aM (below_step TB hb); clear hb; have hnb19 := NB287_286.out; have hnc19 := NB286_287.out; obtain ⟨hcz20_0, hcz20_1⟩ := cz2 BK287.out; obtain ⟨hfz20_0, hfz20_1⟩ := fz2 BK287.out))
    refine bodyPost_ret (results_cell_row rfl _ _ gb287 35 #[.int .i64 0, .slice none 0 0] (0, 0) _ rfl (by (with_reducible repeat (first | refine blk_drewN ?_ _ | refine blk_drew ?_ | refine blk_alloc ?_ _)); refine blk_put (cs := #[.int .i64 0, .slice none 0 0]) ?_ 1 _ rfl; (with_reducible repeat (first | refine blk_drewN ?_ _ | refine blk_drew ?_ | refine blk_alloc ?_ _)); refine blk_put (cs := #[.int .i64 0, .slice none 0 0]) ?_ 0 _ rfl; (with_reducible repeat (first | refine blk_drewN ?_ _ | refine blk_drew ?_ | refine blk_alloc ?_ _)); exact BK287.out) Try.underlying35 rfl (by kernel_rfl)) rfl ?_
    exact ⟨_, by first | rfl | (simp [errW_none, errW_some] <;> rfl) | (simp [*, errW_none, errW_some] <;> rfl), by first | exact Kd.R_nil _ _ _ _ _ | exact Kd.N_nil _ _ _ _ _ | exact Kd.V_nil _ _ _ _ _ | exact Kd.Q_nil _ _ _ _ _ | exact Kd.S_nil _ _ _ _ _, TB⟩

end Go.Proofs.Ytnoplippaiblcaa.Q
