/- Functions of the program as plain Lean functions, and that a call of each comes to what its function tells. Written by a program of this seat. -/
import Derived.Test.YtfkndpjbkndhcaaQ0
import Derived.Test.YtfkndpjbkndhcaaQ3
import Derived.Test.YtfkndpjbkndhcaaQ5
import Derived.Test.YtfkndpjbkndhcaaQ8
namespace Go.Proofs.Ytfkndpjbkndhcaa.Q
open Go.RowKit Go.Proofs.YtfkndpjbkndhcaaW.PrintWords Go.Proofs.YtfkndpjbkndhcaaW.PrintLast Go.Proofs.YtfkndpjbkndhcaaW.PrintMore
attribute [local go_sem] max2_int min2_int max_two min_two max_three min_three max_four min_four   -- for this text's walks alone
set_option linter.unusedVariables false
set_option linter.unusedSimpArgs false

/-! ### impl_BuildNew: function 11 -/
def impl_BuildNew.f (k : Nat) (a0_0 : Int) (a0_1 : Int) (a0_2 : Int) (l0_3 : List (S48)) : Option (Int × List Int) := (impl_ManOk.f k a0_0 a0_1 a0_2 l0_3).bind fun t224 => (if t224 = true then (if 0 ≤ a0_2 then (if (a0_2 : Int).toNat ≤ 281474976710656 then (some (0, (List.replicate (a0_2 : Int).toNat 0))) else (none)) else (none)) else (some (0, ([] : List Int))))
theorem impl_BuildNew.mono : ∀ a0 a1 a2 a3 k, LeO (impl_BuildNew.f k a0 a1 a2 a3) (impl_BuildNew.f (k + 1) a0 a1 a2 a3) := by
  intro a0 a1 a2 a3 k
  have m0_ := @impl_ManOk.mono
  unfold impl_BuildNew.f
  exact LM
set_option maxHeartbeats 40000000 in
set_option maxRecDepth 100000 in
theorem impl_BuildNew.calls (k : Nat) (a0_0 : Int) (a0_1 : Int) (a0_2 : Int) (A0_3 : Option Addr) (c0_3 : Nat) (l0_3 : List (S48)) (r1 : Int) (r2 : List Int) (w : World) (hr0_3 : Kd.C k48 w A0_3 l0_3.length l0_3) (hc0_3 : l0_3.length ≤ c0_3) (h : impl_BuildNew.f k a0_0 a0_1 a0_2 l0_3 = some (r1, r2)) :
    Calls Try.prog 11 #[.agg #[.int .i64 a0_0, .int .i64 a0_1, .int .i64 a0_2, .slice A0_3 l0_3.length c0_3]] w fun e w' => ∃ v1_ : Value, e = .returned (.agg #[.int .i64 r1, v1_]) ∧ Kd.R (Kd.int .u8) 5 w' w.heap.size (fun _ => True) v1_ r2 ∧ Below w.heap.size w w' := by
  have hu28 := Try.underlying28
  have hu31 := Try.underlying31
  have HR0_3 := aM hr0_3
  have HC0_3 := aM hc0_3
  clear hr0_3 hc0_3
  have HB := aM (Below.refl w.heap.size w)
  have H := h
  clear h
  unfold impl_BuildNew.f at H
  replace H := bE H
  obtain ⟨t224, A2, H⟩ := H
  go_enter Try.func11, Try.ntmps11
  go_wp2_with (first | ((with_reducible refine gate_dst (N := 1) rfl ?_); refine gBx 1 #[.int .i64 a0_0, .int .i64 a0_1, .int .i64 a0_2, .slice A0_3 l0_3.length c0_3] 28 ?_; intro gb222 hg w4 hbox hb; have BK222 := aM (hbox); have GW222 := aM ((by rw [hg]; exact (below_size TB) : w.heap.size ≤ gb222)); have GE222 := aM ((by rw [hg]; exact (below_size TB) : w.heap.size ≤ gb222)); replace HB := aM (below_step TB hb); clear hb hbox hg) | ((with_reducible refine gate_dst (N := 2) rfl ?_); refine gBx 2 #[.int .i64 0, .slice none 0 0] 31 ?_; intro gb223 hg w5 hbox hb; have BK223 := aM (hbox); have GW223 := aM ((by rw [hg]; exact (below_size TB) : w.heap.size ≤ gb223)); have GE223 := aM ((by rw [hg]; exact (below_size TB) : w.heap.size ≤ gb223)); have NB222_223 := aM ((by rw [hg]; exact Nat.ne_of_lt (blk_lt (by have X_ := BK222.out; exact TX)) : gb222 ≠ gb223)); have NB223_222 := aM ((by rw [hg]; exact Nat.ne_of_gt (blk_lt (by have X_ := BK222.out; exact TX)) : gb223 ≠ gb222)); replace BK222 := aM (blk_below (by have X_ := BK222.out; exact TX) hb); replace HB := aM (below_step TB hb); clear hb hbox hg; have hnb6 := NB222_223.out; have hnc6 := NB223_222.out; obtain ⟨hcz7_0, hcz7_1, hcz7_2, hcz7_3⟩ := cz4 BK222.out; obtain ⟨hfz7_0, hfz7_1, hfz7_2, hfz7_3⟩ := fz4 BK222.out) | ((with_reducible refine gate_callee (f := 64) rfl ?_); (with_reducible refine gate_dst (N := 4) rfl ?_); generalize hG_ : wpList _ _ _ _ _ _ = G_))
  subst hG_
  by_cases c8 : t224 = true
  · subst c8
    replace H := ifT H
    replace H := ifN H
    obtain ⟨c9, H⟩ := H
    have c9b0 := eq_true c9
    have c9b1 : decide (0 ≤ a0_2) = true := decide_eq_true c9
    clear c9
    replace H := ifN H
    obtain ⟨c10, H⟩ := H
    have c10b0 := eq_true c10
    have c10b1 : decide ((a0_2 : Int).toNat ≤ 281474976710656) = true := decide_eq_true c10
    clear c10
    obtain ⟨y225, hy225⟩ : ∃ y_ : List Int, y_ = (List.replicate (a0_2 : Int).toNat 0) := ⟨_, rfl⟩
    rw [← hy225] at H
    have Ny225 := aM hy225
    clear hy225
    simp only [Option.some.injEq, Prod.mk.injEq] at H
    obtain ⟨rfl, rfl⟩ := H
    go_wp2_with (first | ((with_reducible refine gate_callee (f := 64) rfl ?_); refine gL (some 4) Try.func64 #[.agg #[.int .i64 a0_0, .int .i64 a0_1, .int .i64 a0_2, .slice A0_3 l0_3.length c0_3]] ?_; (with_reducible refine (impl_ManOk.calls k a0_0 a0_1 a0_2 _ _ l0_3 true _ ?side1 ?side2 A2.out).mono ?_); (case side1 => repeat (first | exact (Kd.C_below HR0_3.out TB) | (with_reducible refine Kd.C_alloc ?_ _) | (with_reducible refine Kd.C_drewN ?_ _) | (with_reducible refine Kd.C_drew ?_))); (case side2 => exact HC0_3.out); rintro e w11 ⟨rfl, hb⟩; refine ⟨_, rfl, ?_⟩; replace BK222 := aM (blk_below (by have X_ := BK222.out; exact TX) hb); replace BK223 := aM (blk_below (by have X_ := BK223.out; exact TX) hb); replace HB := aM (below_step TB hb); clear hb; have hnb12 := NB222_223.out; have hnc12 := NB223_222.out; obtain ⟨hcz13_0, hcz13_1, hcz13_2, hcz13_3⟩ := cz4 BK222.out; obtain ⟨hfz13_0, hfz13_1, hfz13_2, hfz13_3⟩ := fz4 BK222.out) | ((with_reducible refine gate_dst (N := 9) rfl ?_); refine Kd.R_make (Kd.int .u8) _ 5 rfl (N := 9) rfl 22 _ _ rfl a0_2 rfl rfl Try.underlying22 (.int .u8 0) 1 info5 rfl (by decide) (by omega) 0 (ok := fun _ => True) (okp := fun _ => True) rfl (fun _ hk => hk) trivial DT (Nat.le_trans (Nat.mul_le_mul_right _ (DT : a0_2.toNat ≤ 281474976710656)) (by omega)) (Below.refl _ _) (Nat.le_refl _) ?_; intro v226 w14 ho15 hb hg_ hnew_; clear hg_ hnew_; (first | rw [← Ny225.out] at ho15 | (simp only [Int.reduceToNat] at ho15; rw [← Ny225.out] at ho15)); have HO227 := aM (Kd.R_lower ho15 (below_size TB)); replace BK222 := aM (blk_below (by have X_ := BK222.out; exact TX) hb); replace BK223 := aM (blk_below (by have X_ := BK223.out; exact TX) hb); replace HB := aM (below_step TB hb); clear hb ho15; obtain ⟨Ao16, co16, eo16⟩ := Kd.R_slice HO227.out; subst eo16; obtain ⟨hcz17_0, hcz17_1⟩ := cz2 BK223.out; obtain ⟨hfz17_0, hfz17_1⟩ := fz2 BK223.out))
    refine bodyPost_ret (results_cell_row rfl _ _ gb223 31 #[.int .i64 0, .slice Ao16 y225.length co16] (0, 0) _ rfl (by (with_reducible repeat (first | refine blk_drewN ?_ _ | refine blk_drew ?_ | refine blk_alloc ?_ _)); refine blk_put (cs := #[.int .i64 0, .slice none 0 0]) ?_ 1 _ rfl; (with_reducible repeat (first | refine blk_drewN ?_ _ | refine blk_drew ?_ | refine blk_alloc ?_ _)); refine blk_put (cs := #[.int .i64 0, .slice none 0 0]) ?_ 0 _ rfl; (with_reducible repeat (first | refine blk_drewN ?_ _ | refine blk_drew ?_ | refine blk_alloc ?_ _)); exact BK223.out) Try.underlying31 rfl (by kernel_rfl)) rfl ?_
    exact ⟨_, by first | rfl | (simp [errW_none, errW_some] <;> rfl) | (simp [*, errW_none, errW_some] <;> rfl), by (with_reducible repeat (first | apply Kd.R_alloc | apply Kd.R_drewN | apply Kd.R_drew)); exact Kd.R_mono (Kd.R_far (p := ⟨gb223, 1, none⟩) (Kd.R_far (p := ⟨gb223, 0, none⟩) (Kd.R_types HO227.out BK223.out (by decide)) (fun _ hk => hk.2) (.int .i64 0)) (fun _ hk => hk.2) (.slice Ao16 y225.length co16)) (fun _ hk => trivial), TB⟩
  · replace c8 := Bool.eq_false_iff.mpr c8
    subst c8
    replace H := ifF H
    simp only [Option.some.injEq, Prod.mk.injEq] at H
    obtain ⟨rfl, rfl⟩ := H
    go_wp2_with (first | ((with_reducible refine gate_callee (f := 64) rfl ?_); refine gL (some 4) Try.func64 #[.agg #[.int .i64 a0_0, .int .i64 a0_1, .int .i64 a0_2, .slice A0_3 l0_3.length c0_3]] ?_; (with_reducible refine (impl_ManOk.calls k a0_0 a0_1 a0_2 _ _ l0_3 false _ ?side1 ?side2 A2.out).mono ?_); (case side1 => repeat (first | exact (Kd.C_below HR0_3.out TB) | (with_reducible refine Kd.C_alloc ?_ _) | (with_reducible refine Kd.C_drewN ?_ _) | (with_reducible refine Kd.C_drew ?_))); (case side2 => exact HC0_3.out); rintro e w18 ⟨rfl, hb⟩; refine ⟨_, rfl, ?_⟩; replace BK222 := aM (blk_below (by have X_ := BK222.out; exact TX) hb); replace BK223 := aM (blk_below (by have X_ := BK223.out; exact TX) hb); replace HB := aM (below_step TB hb); clear hb; have hnb19 := NB223_222.out; have hnc19 := NB222_223.out; obtain ⟨hcz20_0, hcz20_1⟩ := cz2 BK223.out; obtain ⟨hfz20_0, hfz20_1⟩ := fz2 BK223.out))
    refine bodyPost_ret (results_cell_row rfl _ _ gb223 31 #[.int .i64 0, .slice none 0 0] (0, 0) _ rfl (by (with_reducible repeat (first | refine blk_drewN ?_ _ | refine blk_drew ?_ | refine blk_alloc ?_ _)); refine blk_put (cs := #[.int .i64 0, .slice none 0 0]) ?_ 1 _ rfl; (with_reducible repeat (first | refine blk_drewN ?_ _ | refine blk_drew ?_ | refine blk_alloc ?_ _)); refine blk_put (cs := #[.int .i64 0, .slice none 0 0]) ?_ 0 _ rfl; (with_reducible repeat (first | refine blk_drewN ?_ _ | refine blk_drew ?_ | refine blk_alloc ?_ _)); exact BK223.out) Try.underlying31 rfl (by kernel_rfl)) rfl ?_
    exact ⟨_, by first | rfl | (simp [errW_none, errW_some] <;> rfl) | (simp [*, errW_none, errW_some] <;> rfl), by first | exact Kd.R_nil _ _ _ _ _ | exact Kd.N_nil _ _ _ _ _ | exact Kd.V_nil _ _ _ _ _ | exact Kd.Q_nil _ _ _ _ _ | exact Kd.S_nil _ _ _ _ _, TB⟩

/-! ### impl_Build_block: function 89 -/
def impl_Build_block.f (a0_0 : Int) (l0_1 : List Int) (a1_0 : Int) (a1_1 : Int) (a1_2 : Int) (l1_3 : List (S48)) (a2 : Int) : Option (List Int) := (impl_SpanOf.f a1_1 a1_2 a2).bind fun bt237 => (if 0 ≤ bt237.1 then (if bt237.1 ≤ (wrap64 (bt237.1 + bt237.2)) then (if (wrap64 (bt237.1 + bt237.2)) ≤ (l0_1.length : Int) then (some ((l0_1.take ((wrap64 (bt237.1 + bt237.2)) : Int).toNat).drop (bt237.1 : Int).toNat)) else (none)) else (none)) else (none))
set_option maxHeartbeats 40000000 in
set_option maxRecDepth 100000 in
theorem impl_Build_block.calls (a0_0 : Int) (P0_1_ : Nat → Prop) (A0_1 : Option Addr) (c0_1 : Nat) (l0_1 : List Int) (a1_0 : Int) (a1_1 : Int) (a1_2 : Int) (A1_3 : Option Addr) (c1_3 : Nat) (l1_3 : List (S48)) (a2 : Int) (r : List Int) (w : World) (hs0_1 : Kd.V (Kd.int .u8) 5 w w.heap.size (fun k_ => P0_1_ k_) (.slice A0_1 l0_1.length c0_1) l0_1) (hr1_3 : Kd.C k48 w A1_3 l1_3.length l1_3) (hc1_3 : l1_3.length ≤ c1_3) (h : impl_Build_block.f a0_0 l0_1 a1_0 a1_1 a1_2 l1_3 a2 = some r) :
    Calls Try.prog 89 #[.agg #[.int .i64 a0_0, .slice A0_1 l0_1.length c0_1], .agg #[.int .i64 a1_0, .int .i64 a1_1, .int .i64 a1_2, .slice A1_3 l1_3.length c1_3], .int .i64 a2] w fun e w' => ∃ v0_ : Value, e = .returned (v0_) ∧ Kd.V (Kd.int .u8) 5 w' w.heap.size (fun k_ => (P0_1_ k_ ∨ w.heap.size ≤ k_)) v0_ r ∧ Below w.heap.size w w' := by
  have hu31 := Try.underlying31
  have hu28 := Try.underlying28
  have HO0_1 := aM (show Kd.V (Kd.int .u8) 5 w w.heap.size (fun k_ => (P0_1_ k_ ∨ w.heap.size ≤ k_)) (.slice A0_1 l0_1.length c0_1) l0_1 from Kd.V_mono hs0_1 (fun k_ hk => .inl hk))
  have HR1_3 := aM hr1_3
  have HC1_3 := aM hc1_3
  clear hr1_3 hc1_3
  have HB := aM (Below.refl w.heap.size w)
  have H := h
  clear h
  unfold impl_Build_block.f at H
  replace H := bE H
  obtain ⟨⟨t237, t238⟩, A4, H⟩ := H
  dsimp only at H
  replace H := ifN H
  obtain ⟨c5, H⟩ := H
  have c5b0 := eq_true c5
  have c5b1 : decide (0 ≤ t237) = true := decide_eq_true c5
  clear c5
  replace H := ifN H
  obtain ⟨c6, H⟩ := H
  have c6b0 := eq_true c6
  have c6b1 : decide (t237 ≤ (wrap64 (t237 + t238))) = true := decide_eq_true c6
  replace H := ifN H
  obtain ⟨c7, H⟩ := H
  have c7b0 := eq_true c7
  have c7b1 : decide ((wrap64 (t237 + t238)) ≤ (l0_1.length : Int)) = true := decide_eq_true c7
  obtain ⟨y239, hy239⟩ : ∃ y_ : List Int, y_ = ((l0_1.take ((wrap64 (t237 + t238)) : Int).toNat).drop (t237 : Int).toNat) := ⟨_, rfl⟩
  rw [← hy239] at H
  have Ny239 := aM hy239
  clear hy239
  obtain rfl := Option.some.inj H
  go_enter Try.func89, Try.ntmps89
  go_wp2_with (first | ((with_reducible refine gate_dst (N := 3) rfl ?_); refine gBx 3 #[.int .i64 a0_0, .slice A0_1 l0_1.length c0_1] 31 ?_; intro gb235 hg w8 hbox hb; have BK235 := aM (hbox); have GW235 := aM ((by rw [hg]; exact (below_size TB) : w.heap.size ≤ gb235)); have GE235 := aM ((by rw [hg]; exact (below_size TB) : w.heap.size ≤ gb235)); replace HO0_1 := aM (Kd.V_below (Kd.V_elderB (by (with_reducible repeat (first | apply Kd.V_alloc | apply Kd.V_drewN | apply Kd.V_drew)); exact HO0_1.out) gb235 (Nat.le_of_eq hg.symm)) hb); replace HB := aM (below_step TB hb); clear hb hbox hg) | ((with_reducible refine gate_dst (N := 4) rfl ?_); refine gBx 4 #[.int .i64 a1_0, .int .i64 a1_1, .int .i64 a1_2, .slice A1_3 l1_3.length c1_3] 28 ?_; intro gb236 hg w9 hbox hb; have BK236 := aM (hbox); have GW236 := aM ((by rw [hg]; exact (below_size TB) : w.heap.size ≤ gb236)); have GE236 := aM ((by rw [hg]; exact (below_size TB) : w.heap.size ≤ gb236)); have NB235_236 := aM ((by rw [hg]; exact Nat.ne_of_lt (blk_lt (by have X_ := BK235.out; exact TX)) : gb235 ≠ gb236)); have NB236_235 := aM ((by rw [hg]; exact Nat.ne_of_gt (blk_lt (by have X_ := BK235.out; exact TX)) : gb236 ≠ gb235)); replace HO0_1 := aM (Kd.V_below (Kd.V_elderB (by (with_reducible repeat (first | apply Kd.V_alloc | apply Kd.V_drewN | apply Kd.V_drew)); exact HO0_1.out) gb236 (Nat.le_of_eq hg.symm)) hb); replace BK235 := aM (blk_below (by have X_ := BK235.out; exact TX) hb); replace HB := aM (below_step TB hb); clear hb hbox hg; have hnb10 := NB236_235.out; have hnc10 := NB235_236.out; obtain ⟨hcz11_0, hcz11_1, hcz11_2, hcz11_3⟩ := cz4 BK236.out; obtain ⟨hfz11_0, hfz11_1, hfz11_2, hfz11_3⟩ := fz4 BK236.out) | ((with_reducible refine gate_callee (f := 66) rfl ?_); refine gL (some 15) Try.func66 #[.int .i64 a1_1, .int .i64 a1_2, .int .i64 a2] ?_; (with_reducible refine (impl_SpanOf.calls a1_1 a1_2 a2 t237 t238 _ A4.out).mono ?_); rintro e w12 ⟨rfl, hb⟩; refine ⟨_, rfl, ?_⟩; replace HO0_1 := aM (Kd.V_below (by (with_reducible repeat (first | apply Kd.V_alloc | apply Kd.V_drewN | apply Kd.V_drew)); exact HO0_1.out) hb); replace BK235 := aM (blk_below (by have X_ := BK235.out; exact TX) hb); replace BK236 := aM (blk_below (by have X_ := BK236.out; exact TX) hb); replace HB := aM (below_step TB hb); clear hb; obtain ⟨hcz13_0, hcz13_1⟩ := cz2 BK235.out; obtain ⟨hfz13_0, hfz13_1⟩ := fz2 BK235.out; have q14 : ((wrap64 (t237 + t238)) : Int) ≤ ((l0_1.length : Int) : Int) := DT; obtain ⟨i014, hi014, _, hsz14, _⟩ := info_parts info5; have hroom14 : l0_1.length ≤ c0_1 := (Kd.V_reads' HO0_1.out).2.1; have hC14 : Kd.F (Kd.int .u8) _ _ A0_1 l0_1.length l0_1 := (Kd.V_at (base := w.heap.size) HO0_1.out).2.2; have ql14 : (t237 : Int) ≤ ((wrap64 (t237 + t238)) : Int) := DT; have q014 : (0 : Int) ≤ (t237 : Int) := DT; have hcut14 := cut_mid (P := Try.prog) 22 5 .i64 .i64 Try.underlying22 hi014 1 hsz14 A0_1 l0_1.length c0_1 t237 (wrap64 (t237 + t238)) q014 ql14 q14 hroom14; have hr14 := Kd.F_mid (lo := (t237 : Int).toNat) (hi := ((wrap64 (t237 + t238)) : Int).toNat) (c := c0_1) hC14 (by omega) (by omega) hroom14; obtain ⟨A14, hA14⟩ : ∃ A1, A1 = (if c0_1 = (t237 : Int).toNat then A0_1 else (A0_1 : Option Addr).map (·.add ((t237 : Int).toNat * 1))) := ⟨_, rfl⟩; obtain ⟨c14, hc14⟩ : ∃ c1, c1 = c0_1 - (t237 : Int).toNat := ⟨_, rfl⟩; have hy14 : y239.length = ((wrap64 (t237 + t238)) : Int).toNat - (t237 : Int).toNat := (by rw [Ny239.out, List.length_drop, List.length_take] <;> omega); rw [show ((l0_1).take ((wrap64 (t237 + t238)) : Int).toNat).drop (t237 : Int).toNat = y239 from Ny239.out.symm] at hr14; replace hr14 : Kd.F (Kd.int .u8) _ _ A14 y239.length y239 := (by rw [hA14]; exact hr14); rw [← hy14, ← hA14, ← hc14] at hcut14; have HO243 := aM (show Kd.V (Kd.int .u8) 5 _ w.heap.size _ (.slice A14 y239.length c14) y239 from Kd.V_mk (by rw [hy14, hc14]; exact Nat.sub_le_sub_right (Nat.le_trans (by omega) hroom14) _) hr14); have HC243 := aM (show y239.length ≤ c14 from by rw [hy14, hc14]; exact Nat.sub_le_sub_right (Nat.le_trans (by omega) hroom14) _); clear hr14 hC14 hroom14 hi014 hsz14 hc14; have KY14 := aM hy14; have KA14 := aM hA14; clear hy14 hA14; replace q14 := eq_true q14))
  go_ret
  exact ⟨_, by first | rfl | (simp [errW_none, errW_some] <;> rfl) | (simp [*, errW_none, errW_some] <;> rfl), by (with_reducible repeat (first | apply Kd.V_alloc | apply Kd.V_drewN | apply Kd.V_drew)); exact Kd.V_mono HO243.out (fun _ hk => hk.1.1), TB⟩

/-! ### impl_copyBuild: function 68 -/
def impl_copyBuild.f (a0_0 : Int) (l0_1 : List Int) : Option (Int × List Int) := (impl_cloned.f l0_1).bind fun t266 => (some (a0_0, t266))
set_option maxHeartbeats 40000000 in
set_option maxRecDepth 100000 in
theorem impl_copyBuild.calls (a0_0 : Int) (A0_1 : Option Addr) (c0_1 : Nat) (l0_1 : List Int) (r1 : Int) (r2 : List Int) (w : World) (hr0_1 : Kd.C (Kd.int .u8) w A0_1 l0_1.length l0_1) (hc0_1 : l0_1.length ≤ c0_1) (h : impl_copyBuild.f a0_0 l0_1 = some (r1, r2)) :
    Calls Try.prog 68 #[.agg #[.int .i64 a0_0, .slice A0_1 l0_1.length c0_1]] w fun e w' => ∃ v1_ : Value, e = .returned (.agg #[.int .i64 r1, v1_]) ∧ Kd.R (Kd.int .u8) 5 w' w.heap.size (fun _ => True) v1_ r2 ∧ Below w.heap.size w w' := by
  have hu31 := Try.underlying31
  have HR0_1 := aM hr0_1
  have HC0_1 := aM hc0_1
  clear hr0_1 hc0_1
  have HB := aM (Below.refl w.heap.size w)
  have H := h
  clear h
  unfold impl_copyBuild.f at H
  replace H := bE H
  obtain ⟨t266, A2, H⟩ := H
  simp only [Option.some.injEq, Prod.mk.injEq] at H
  obtain ⟨rfl, rfl⟩ := H
  go_enter Try.func68, Try.ntmps68
  try go_wp2_with (first | ((with_reducible refine gate_dst (N := 1) rfl ?_); refine gBx 1 #[.int .i64 a0_0, .slice A0_1 l0_1.length c0_1] 31 ?_; intro gb264 hg w3 hbox hb; have BK264 := aM (hbox); have GW264 := aM ((by rw [hg]; exact (below_size TB) : w.heap.size ≤ gb264)); have GE264 := aM ((by rw [hg]; exact (below_size TB) : w.heap.size ≤ gb264)); replace HB := aM (below_step TB hb); clear hb hbox hg) | ((with_reducible refine gate_dst (N := 2) rfl ?_); refine gBx 2 #[.int .i64 0, .slice none 0 0] 31 ?_; intro gb265 hg w4 hbox hb; have BK265 := aM (hbox); have GW265 := aM ((by rw [hg]; exact (below_size TB) : w.heap.size ≤ gb265)); have GE265 := aM ((by rw [hg]; exact (below_size TB) : w.heap.size ≤ gb265)); have NB264_265 := aM ((by rw [hg]; exact Nat.ne_of_lt (blk_lt (by have X_ := BK264.out; exact TX)) : gb264 ≠ gb265)); have NB265_264 := aM ((by rw [hg]; exact Nat.ne_of_gt (blk_lt (by have X_ := BK264.out; exact TX)) : gb265 ≠ gb264)); replace BK264 := aM (blk_below (by have X_ := BK264.out; exact TX) hb); replace HB := aM (below_step TB hb); clear hb hbox hg))
  replace BK264 := aM (blk_drew BK264.out)
  replace BK265 := aM (blk_drew BK265.out)
  replace HB := aM (below_drew1 HB.out)
  refine start_ (n := 7) (S := fun w' => w'.cell? ⟨gb264, 0, none⟩ = some (.int .i64 a0_0) ∧ w'.cell? ⟨gb264, 1, none⟩ = some (.slice A0_1 l0_1.length c0_1)) (ds := []) (Array.replicate 7 false) (by kernel_rfl) rfl rfl (cz2 BK264.out) (fun hHeld => ?_)
  generalize w4.drew = w5 at BK264 BK265 HB hHeld ⊢
  refine pP 0 (some 3) ?_
  refine pP 2 (some 5) ?_
  refine pT 1 (some 4) ?_
  refine pT 3 (some 6) ?_
  refine pO 4 (some 7) (fun K hK => ?_)
  refine gG Try.func94 #[.slice A0_1 l0_1.length c0_1] ?_
  with_reducible refine (impl_cloned.calls _ _ l0_1 t266 _ ?side1 ?side2 A2.out).mono ?_
  (case side1 => have X_ := (Kd.C_below HR0_1.out HB.out); exact TC)
  (case side2 => exact HC0_1.out)
  rintro e w6 ⟨v267, rfl, ho0, hb⟩
  refine ⟨_, rfl, ?_⟩
  have n0_ := aM (Kd.R_lower ho0 (below_size TB))
  have n1_ := aM (blk_below (by have X_ := BK264.out; exact TX) hb)
  have n2_ := aM (blk_below (by have X_ := BK265.out; exact TX) hb)
  have n3_ := aM (below_step TB hb)
  clear BK264
  clear BK265
  clear HB
  have HO268 := n0_
  have BK264 := n1_
  have BK265 := n2_
  have HB := n3_
  clear n0_ n1_ n2_ n3_
  (try clear hb)
  (try clear hb2)
  (try clear hk)
  (try clear hi)
  (try clear ho0)
  obtain ⟨Ao7, co7, eo7⟩ := Kd.R_slice HO268.out
  (first | subst eo7 | (injection eo7 with f1_ f2_ f3_; have f4_ := f1_.symm; have f5_ := f3_.symm; clear f1_ f2_ f3_; subst f4_; subst f5_))
  refine hK.out _ _ (cz2 BK264.out) (fun hHeld => ?_)
  clear hK K
  refine nR ?_
  refine pP 5 (some 8) ?_
  refine pO 6 none (fun K hK => ?_)
  have hs8 : w6.cell? ⟨gb265, 0, none⟩ = some (.int .i64 0) := (blk_cell BK265.out 0).trans rfl
  have hfs8 := blk_frozen BK265.out 0
  have hns8_0 := NB264_265.out
  have hms8_0 := NB265_264.out
  have hs9 : w6.cell? ⟨gb265, 1, none⟩ = some (.slice none 0 0) := (blk_cell BK265.out 1).trans rfl
  have hfs9 := blk_frozen BK265.out 1
  have hns9_0 := NB264_265.out
  have hms9_0 := NB265_264.out
  refine skip_ (w1 := ?_) (by rfl) rfl ?_ ?_
  rotate_left
  · go_simp
    rfl
  refine hK.out _ _ ⟨((cell_far (p := ⟨gb265, _, none⟩) NB264_265.out _).trans (((cell_far (p := ⟨gb265, _, none⟩) NB264_265.out _).trans (hHeld.1)))), ((cell_far (p := ⟨gb265, _, none⟩) NB264_265.out _).trans (((cell_far (p := ⟨gb265, _, none⟩) NB264_265.out _).trans (hHeld.2))))⟩ (fun hHeld => ?_)
  clear hK K
  refine done_ (by kernel_rfl) ?_
  try go_wp2
  refine bodyPost_ret (results_cell_row rfl _ _ gb265 31 #[.int .i64 a0_0, .slice Ao7 t266.length co7] (0, 0) _ rfl (by (with_reducible repeat (first | refine blk_drewN ?_ _ | refine blk_drew ?_ | refine blk_alloc ?_ _)); refine blk_put (cs := #[.int .i64 a0_0, .slice none 0 0]) ?_ 1 _ rfl; (with_reducible repeat (first | refine blk_drewN ?_ _ | refine blk_drew ?_ | refine blk_alloc ?_ _)); refine blk_put (cs := #[.int .i64 0, .slice none 0 0]) ?_ 0 _ rfl; (with_reducible repeat (first | refine blk_drewN ?_ _ | refine blk_drew ?_ | refine blk_alloc ?_ _)); exact BK265.out) Try.underlying31 rfl (by kernel_rfl)) rfl ?_
  exact ⟨_, by first | rfl | (simp [errW_none, errW_some] <;> rfl) | (simp [*, errW_none, errW_some] <;> rfl), by (with_reducible repeat (first | apply Kd.R_alloc | apply Kd.R_drewN | apply Kd.R_drew)); exact Kd.R_mono (Kd.R_far (p := ⟨gb265, 1, none⟩) (Kd.R_far (p := ⟨gb265, 0, none⟩) (Kd.R_types HO268.out BK265.out (by decide)) (fun _ hk => hk.2) (.int .i64 a0_0)) (fun _ hk => hk.2) (.slice Ao7 t266.length co7)) (fun _ hk => trivial), TB⟩

/-! ### impl_Build_put: function 69 -/
theorem set_back {W : World} {g : Nat} {t : TypeId} {a b a' b' : Value} (h : W.heap[g]? = some (.cells #[a', b'] t (0, 0))) : (((W.setCell ⟨g, 0, none⟩ a).setCell ⟨g, 1, none⟩ b).setCell ⟨g, 0, none⟩ a').setCell ⟨g, 1, none⟩ b' = W := by
  have e : ((((W.setCell ⟨g, 0, none⟩ a).setCell ⟨g, 1, none⟩ b).setCell ⟨g, 0, none⟩ a').setCell ⟨g, 1, none⟩ b').heap = W.heap := by
    refine Array.ext_getElem? (fun k => ?_)
    simp only [World.setCell, Array.getElem?_modify]
    by_cases hk : g = k
    · subst hk
      simp [h]
    · simp [hk]
  have key : ∀ X : World, X.heap = W.heap → X = { W with heap := X.heap } → X = W := fun X h1 h2 => by rw [h2, h1]
  exact key _ e rfl
/-- A struct of two cells as it was, ahead of its being written. -/
theorem virt_ {W : World} {g : Nat} {t : TypeId} {a' b' : Value} (a b : Value) (h : W.heap[g]? = some (.cells #[a', b'] t (0, 0))) : ∃ w1 : World, (w1.setCell ⟨g, 0, none⟩ a').setCell ⟨g, 1, none⟩ b' = W ∧ w1.heap[g]? = some (.cells #[a, b] t (0, 0)) ∧ Wr g W w1 :=
  ⟨(W.setCell ⟨g, 0, none⟩ a).setCell ⟨g, 1, none⟩ b, set_back h, blk_put (cs := #[a, b']) (blk_put (cs := #[a', b']) h 0 a rfl) 1 b rfl, Wr.set W g 0 [a, b]⟩
set_option maxHeartbeats 4000000 in
set_option maxRecDepth 100000 in
/-- A block is the very cut. -/
theorem impl_Build_block.at (hv : Int) (A : Option Addr) (c : Nat) (l : List Int) (m0 m1 m2 : Int) (A3 : Option Addr) (c3 : Nat) (l3 : List S48) (i : Int) (t n : Int) (w : World) (hc : l.length ≤ c) (h : impl_SpanOf.f m1 m2 i = some (t, n)) (h0 : 0 ≤ t) (h1 : t ≤ wrap64 (t + n)) (h2 : wrap64 (t + n) ≤ (l.length : Int)) :
    Calls Try.prog 89 #[.agg #[.int .i64 hv, .slice A l.length c], .agg #[.int .i64 m0, .int .i64 m1, .int .i64 m2, .slice A3 l3.length c3], .int .i64 i] w fun e w' => e = .returned (.slice (if c = t.toNat then A else A.map (fun x => x.add t.toNat)) ((wrap64 (t + n)).toNat - t.toNat) (c - t.toNat)) ∧ Below w.heap.size w w' := by
  have HB := aM (Below.refl w.heap.size w)
  have H := aM h
  have H0 := aM h0
  have H1 := aM h1
  have H2 := aM h2
  have HC := aM hc
  clear h h0 h1 h2 hc
  obtain ⟨Ax, hAx⟩ : ∃ Ax, Ax = (if c = t.toNat then A else A.map (fun x => x.add t.toNat)) := ⟨_, rfl⟩
  rw [← hAx]
  have HX := aM (show Ax = (if c = t.toNat then A else A.map (fun x => x.add (t.toNat * 1))) by rw [hAx]; simp only [Nat.mul_one])
  clear hAx
  go_enter Try.func89, Try.ntmps89
  go_wp2_with (first | ((with_reducible refine gate_dst (N := 3) rfl ?_); refine gBx 3 #[.int .i64 hv, .slice A l.length c] 31 ?_; intro g3 hg w2 hbox hb; have B3 := aM hbox; replace HB := aM (below_step HB.out hb); clear hb hbox hg; (simp only [Act.put, List.setIfInBounds_toArray, List.set_cons_zero, List.set_cons_succ])) | ((with_reducible refine gate_dst (N := 4) rfl ?_); refine gBx 4 #[.int .i64 m0, .int .i64 m1, .int .i64 m2, .slice A3 l3.length c3] 28 ?_; intro g4 hg w3 hbox hb; have B4 := aM hbox; replace B3 := aM (blk_below B3.out hb); replace HB := aM (below_step HB.out hb); clear hb hbox hg; obtain ⟨hcz0, hcz1, hcz2, hcz3⟩ := cz4 B4.out; (simp only [Act.put, List.setIfInBounds_toArray, List.set_cons_zero, List.set_cons_succ])) | ((with_reducible refine gate_callee (f := 66) rfl ?_); refine gL (some 15) Try.func66 #[.int .i64 m1, .int .i64 m2, .int .i64 i] ?_; (with_reducible refine (impl_SpanOf.calls m1 m2 i t n _ H.out).mono ?_); rintro e w12 ⟨rfl, hb⟩; refine ⟨_, rfl, ?_⟩; replace B3 := aM (blk_below B3.out hb); replace HB := aM (below_step HB.out hb); clear hb; obtain ⟨hcy0, hcy1⟩ := cz2 B3.out; obtain ⟨i0, hi0, hcutz⟩ := info_parts info5; have hcut := cut_mid (P := Try.prog) 22 5 .i64 .i64 Try.underlying22 hi0 1 hcutz.2.1 A l.length c t (wrap64 (t + n)) H0.out H1.out H2.out HC.out; rw [← HX.out] at hcut; (simp only [Act.put, List.setIfInBounds_toArray, List.set_cons_zero, List.set_cons_succ])))
  go_ret
  exact ⟨rfl, HB.out⟩
def impl_Build_put.f (hv : Int) (l : List Int) (m1 m2 : Int) (i : Int) (b : List Int) : Option (Int × List Int) := (impl_SpanOf.f m1 m2 i).bind fun q => (if 0 ≤ q.1 then (if q.1 ≤ wrap64 (q.1 + q.2) then (if wrap64 (q.1 + q.2) ≤ (l.length : Int) then (if (b.length : Int) ≤ wrap64 (q.1 + q.2) - q.1 then (if 0 ≤ i then some (Go.bits .or .i64 hv (shl .i64 1 i), l.take q.1.toNat ++ b ++ l.drop (q.1.toNat + b.length)) else none) else none) else none) else none) else none)
set_option maxHeartbeats 4000000 in
set_option maxRecDepth 100000 in
theorem impl_Build_put.calls (g : Nat) (A : Option Addr) (c : Nat) (hv : Int) (l : List Int) (m0 m1 m2 : Int) (A3 : Option Addr) (c3 : Nat) (l3 : List S48) (i : Int) (Ab : Option Addr) (cb : Nat) (lb : List Int) (r1 : Int) (r2 : List Int) (ok : Nat → Prop) (w0 w : World) (hB : Below w0.heap.size w0 w) (hg : w0.heap.size ≤ g)
    (hG : w.heap[g]? = some (.cells #[.int .i64 hv, .slice A l.length c] 31 (0, 0))) (hD : Kd.R (Kd.int .u8) 5 w w0.heap.size ok (.slice A l.length c) l) (hr : Kd.C (Kd.int .u8) w Ab lb.length lb) (h : impl_Build_put.f hv l m1 m2 i lb = some (r1, r2)) :
    Calls Try.prog 69 #[.pointer (some ⟨g, 0, none⟩), .agg #[.int .i64 m0, .int .i64 m1, .int .i64 m2, .slice A3 l3.length c3], .int .i64 i, .slice Ab lb.length cb] w fun e w' => e = .returned (.tuple #[]) ∧ r2.length = l.length ∧ w'.heap[g]? = some (.cells #[.int .i64 r1, .slice A r2.length c] 31 (0, 0)) ∧ Kd.R (Kd.int .u8) 5 w' w0.heap.size ok (.slice A r2.length c) r2 ∧ Below w0.heap.size w0 w' ∧ Kept w w' (fun k => k = g ∨ some k = (Value.slice A l.length c).ownBlock) := by
  have hu31 := Try.underlying31
  have hu28 := Try.underlying28
  unfold impl_Build_put.f at h
  obtain ⟨⟨t, n⟩, A1, h⟩ := bE h
  dsimp only at A1 h
  obtain ⟨q0, h⟩ := ifN h
  obtain ⟨q1, h⟩ := ifN h
  obtain ⟨q2, h⟩ := ifN h
  obtain ⟨q3, h⟩ := ifN h
  obtain ⟨q4, h⟩ := ifN h
  obtain ⟨e1, e2⟩ : Go.bits .or .i64 hv (shl .i64 1 i) = r1 ∧ l.take t.toNat ++ lb ++ l.drop (t.toNat + lb.length) = r2 := by simpa using h
  clear h
  have hl : r2.length = l.length := by
    rw [← e2, List.length_append, List.length_append, List.length_take, List.length_drop]
    omega
  have HL := aM hl
  have Q0 := aM q0
  have Q1 := aM q1
  have Q2 := aM q2
  have Q3 := aM q3
  have E2 := aM e2
  have HR := aM hr
  have HG := aM hG
  have HD := aM hD
  have HB := aM hB
  have HW := aM hg
  have HK := aM (Kept.refl w (fun k => k = g ∨ some k = (Value.slice A l.length c).ownBlock))
  clear hl q0 q1 q2 q3 e2 hr hG hD hB hg
  have c5b1 : decide (0 ≤ i) = true := decide_eq_true q4
  obtain ⟨ji8, hji8⟩ : ∃ j_ : Int, (shl .i64 1 i) = j_ := ⟨_, rfl⟩
  rw [hji8] at e1
  have hji8_ : (IntKind.i64.wrap (1 * 2 ^ min i.toNat 64)) = ji8 := hji8
  have hji8z : i ≤ 64 → (IntKind.i64.wrap (1 * 2 ^ i.toNat)) = ji8 := shl_small hji8
  have hji8u : (IntKind.i64.wrap (2 ^ min i.toNat 64)) = ji8 := by have h_ := hji8_; rw [Int.one_mul] at h_; exact h_
  have hji8v : i ≤ 64 → (IntKind.i64.wrap (2 ^ i.toNat)) = ji8 := fun hle_ => by have h_ := hji8z hle_; rw [Int.one_mul] at h_; exact h_
  have hji8y : (wrap64 (1 * 2 ^ min i.toNat 64)) = ji8 := (i64_w _).symm.trans hji8_
  have hji8x : i ≤ 64 → (wrap64 (1 * 2 ^ i.toNat)) = ji8 := fun h_ => (i64_w _).symm.trans (hji8z h_)
  subst e1
  go_enter Try.func69, Try.ntmps69
  go_upto_region 1 with (first | ((with_reducible refine gate_dst (N := 5) rfl ?_); refine gBx 5 #[.int .i64 m0, .int .i64 m1, .int .i64 m2, .slice A3 l3.length c3] 28 ?_; intro g5 hg w2 hbox hb; have B5 := aM hbox; have N5 := aM (show g ≠ g5 from fun e => by have := (Array.getElem?_eq_some_iff.1 HG.out).1; omega); replace HB := aM (below_step HB.out hb); replace HG := aM (blk_below HG.out hb); replace HD := aM (Kd.R_below HD.out hb); replace HR := aM (Kd.C_below HR.out hb); replace HK := aM (HK.out.below hb); clear hb hbox hg))
  (try (simp only [Act.put, List.setIfInBounds_toArray, List.set_cons_zero, List.set_cons_succ]))
  replace HB := aM (below_step HB.out (bd1 rfl))
  replace HG := aM (blk_below HG.out (bd1 rfl))
  replace B5 := aM (blk_below B5.out (bd1 rfl))
  replace HD := aM (Kd.R_below HD.out (bd1 rfl))
  replace HR := aM (Kd.C_below HR.out (bd1 rfl))
  replace HK := aM (HK.out.below (bd1 rfl))
  refine start_ (n := 8) (S := fun w' => w'.cell? ⟨g, 0, none⟩ = some (.int .i64 hv) ∧ w'.cell? ⟨g, 1, none⟩ = some (.slice A l.length c) ∧ w'.cell? ⟨g5, 0, none⟩ = some (.int .i64 m0) ∧ w'.cell? ⟨g5, 1, none⟩ = some (.int .i64 m1) ∧ w'.cell? ⟨g5, 2, none⟩ = some (.int .i64 m2) ∧ w'.cell? ⟨g5, 3, none⟩ = some (.slice A3 l3.length c3)) (ds := []) (Array.replicate 8 false) (by kernel_rfl) rfl rfl ⟨(blk_cell HG.out 0).trans rfl, (blk_cell HG.out 1).trans rfl, (blk_cell B5.out 0).trans rfl, (blk_cell B5.out 1).trans rfl, (blk_cell B5.out 2).trans rfl, (blk_cell B5.out 3).trans rfl⟩ (fun hHeld => ?_)
  generalize hw4 : World.drew _ = w4 at HB HG B5 HD HR HK hHeld ⊢
  clear hw4
  refine pP 0 (some 8) ?_
  refine pP 1 (some 9) ?_
  refine pP 4 (some 12) ?_
  refine pP 6 (some 14) ?_
  refine pT 2 (some 10) ?_
  refine pT 3 (some 11) ?_
  refine pO 5 (some 13) (fun K hK => ?_)
  refine gG Try.func89 #[.agg #[.int .i64 hv, .slice A l.length c], .agg #[.int .i64 m0, .int .i64 m1, .int .i64 m2, .slice A3 l3.length c3], .int .i64 i] ?_
  refine (impl_Build_block.at hv A c l m0 m1 m2 A3 c3 l3 i t n _ (Kd.R_reads' HD.out).2.1 A1.out Q0.out Q1.out Q2.out).mono ?_
  rintro e w5 ⟨rfl, hb⟩
  refine ⟨_, rfl, ?_⟩
  generalize hAx : (if c = t.toNat then A else A.map (fun x => x.add t.toNat)) = Ax
  have HX := aM hAx
  clear hAx
  replace HB := aM (below_step HB.out hb)
  replace HG := aM (blk_below HG.out hb)
  replace B5 := aM (blk_below B5.out hb)
  replace HD := aM (Kd.R_below HD.out hb)
  replace HR := aM (Kd.C_below HR.out hb)
  replace HK := aM (HK.out.below hb)
  clear hb
  refine hK.out _ _ ⟨(blk_cell HG.out 0).trans rfl, (blk_cell HG.out 1).trans rfl, (blk_cell B5.out 0).trans rfl, (blk_cell B5.out 1).trans rfl, (blk_cell B5.out 2).trans rfl, (blk_cell B5.out 3).trans rfl⟩ (fun hHeld => ?_)
  clear hK K
  refine nR ?_
  refine pO 7 (some 15) (fun K hK => ?_)
  refine gCp2 (h1 := fun _ => rfl) (0 : Int) (.tmp 13) (.tmp 14) 22 5 Try.underlying22 (by kernel_rfl) HD.out HR.out (k := t.toNat) (n2 := (wrap64 (t + n)).toNat - t.toNat) (by have := Q0.out; have := Q1.out; have := Q2.out; have := Q3.out; omega) (by have := Q0.out; have := Q1.out; have := Q2.out; have := Q3.out; omega) ?_ (by rw [HX.out]; rfl) rfl
  intro w6 hrw hz hsz hkeep
  rw [E2.out] at hrw
  have hne := Kd.R_ne HD.out HG.out (by decide)
  have hn5 := Kd.R_ne HD.out B5.out (by decide)
  replace HG := aM ((hkeep g hne).trans HG.out)
  replace B5 := aM ((hkeep g5 hn5).trans B5.out)
  replace HB := aM (show Below w0.heap.size w0 w6 from ⟨hz.1.trans HB.out.os, hz.2.1.trans HB.out.tape, hz.2.2.trans HB.out.output, by rw [hsz]; exact HB.out.size, fun j hj => (hkeep j (fun e => by have := Kd.R_base HD.out j e.symm; omega)).trans (HB.out.block j hj)⟩)
  replace HK := aM (show Kept w w6 (fun k => k = g ∨ some k = (Value.slice A l.length c).ownBlock) from ⟨by rw [hsz]; exact HK.out.1, fun j hj hn => (hkeep j (fun e => hn (.inr e))).trans (HK.out.2 j hj hn)⟩)
  replace HD := aM hrw
  clear hrw hz hsz hkeep hne hn5 HR
  refine hK.out _ _ ⟨(blk_cell HG.out 0).trans rfl, (blk_cell HG.out 1).trans rfl, (blk_cell B5.out 0).trans rfl, (blk_cell B5.out 1).trans rfl, (blk_cell B5.out 2).trans rfl, (blk_cell B5.out 3).trans rfl⟩ (fun hHeld => ?_)
  clear hK K
  refine nR ?_
  refine done_ (by kernel_rfl) ?_
  go_wp2
  replace HB := aM (below_step HB.out (bd1 rfl))
  replace HG := aM (blk_below HG.out (bd1 rfl))
  replace HD := aM (Kd.R_below HD.out (bd1 rfl))
  replace HK := aM (HK.out.below (bd1 rfl))
  refine start_ (n := 10) (S := fun w' => w'.cell? ⟨g, 0, none⟩ = some (.int .i64 hv)) (ds := [9]) (Array.replicate 10 false) (by kernel_rfl) rfl rfl ((blk_cell HG.out 0).trans rfl) (fun hHeld => ?_)
  generalize hw7 : World.drew _ = w7 at HB HG HD HK hHeld ⊢
  clear hw7
  refine pP 0 (some 16) ?_
  refine pP 1 (some 17) ?_
  refine pP 2 (some 18) ?_
  refine pP 4 (some 20) ?_
  refine pP 5 (some 21) ?_
  refine pT 3 (some 19) ?_
  refine pP 6 (some 22) ?_
  refine pP 7 (some 23) ?_
  refine pP 8 (some 24) ?_
  refine pL 9 none (fun K hK => ?_)
  refine gStS [.int .i64 (Go.bits .or .i64 hv ji8)] #[.int .i64 (Go.bits .or .i64 hv ji8), .slice A l.length c] HG.out ?_
  intro w8 hw hbox
  replace HD := aM (Kd.R_mono (Kd.R_move (Kd.R_types HD.out HG.out (by decide)) (fun k q => hw.2.2 k q.2)) (fun _ q => q.1))
  replace HB := aM (hw.below HB.out HW.out)
  replace HK := aM (HK.out.then_ hw.kept (fun k e => .inl (.inl e)))
  replace HG := aM hbox
  clear hw hbox
  refine hK.out _ _ ?_
  clear hK K
  refine done_ (by kernel_rfl) ?_
  go_end0
  simp only [HL.out]
  exact ⟨by first | rfl | trivial, by first | rfl | trivial, HG.out, HD.out, HB.out, HK.out⟩

/-! ### impl_Without: function 21 -/
def impl_Without.f (a0 : Int) (a1 : Int) : Option (Int) := (impl_SetOk.f a0).bind fun t292 => (if t292 = true then ((impl_SetOk.f a1).bind fun t293 => (if t293 = true then (some (Go.bits .andNot .i64 a0 a1)) else (some 0))) else (some 0))
set_option maxHeartbeats 40000000 in
set_option maxRecDepth 100000 in
theorem impl_Without.calls (a0 : Int) (a1 : Int) (r : Int) (w : World) (h : impl_Without.f a0 a1 = some r) :
  Calls Try.prog 21 #[.int .i64 a0, .int .i64 a1] w fun e w' => e = .returned (.int .i64 r) ∧ Drawn0 w w' := by
 have H := h
 clear h
 unfold impl_Without.f at H
 replace H := bE H
 obtain ⟨t292, A3, H⟩ := H
 by_cases c4 : t292 = true
 ·subst c4
  replace H := ifT H
  replace H := bE H
  obtain ⟨t293, A5, H⟩ := H
  by_cases c6 : t293 = true
  ·subst c6
   replace H := ifT H
   obtain rfl := Option.some.inj H
   go_enter Try.func21, Try.ntmps21
   go_wp2_with (first | ((with_reducible refine gate_callee (f := 72) rfl ?_); refine gL (some 6) Try.func72 #[.int .i64 a0] ?_; (with_reducible refine (impl_SetOk.calls a0 true _ A3.out).mono ?_); rintro e w' ⟨rfl, ⟨nd, rfl⟩⟩; refine ⟨_, rfl, ?_⟩) | (go_at_call 72; (with_reducible refine (impl_SetOk.calls a1 true _ A5.out).mono ?_); rintro e w' ⟨rfl, ⟨nd, rfl⟩⟩))
   go_ret
   exact ⟨by first | rfl | (simp; done) | (simp [*]; done), TD⟩
  ·replace c6 := Bool.eq_false_iff.mpr c6
   subst c6
   replace H := ifF H
   obtain rfl := Option.some.inj H
   go_enter Try.func21, Try.ntmps21
   go_wp2_with (first | ((with_reducible refine gate_callee (f := 72) rfl ?_); refine gL (some 6) Try.func72 #[.int .i64 a0] ?_; (with_reducible refine (impl_SetOk.calls a0 true _ A3.out).mono ?_); rintro e w' ⟨rfl, ⟨nd, rfl⟩⟩; refine ⟨_, rfl, ?_⟩) | (go_at_call 72; (with_reducible refine (impl_SetOk.calls a1 false _ A5.out).mono ?_); rintro e w' ⟨rfl, ⟨nd, rfl⟩⟩))
   go_ret
   exact ⟨by first | rfl | (simp; done) | (simp [*]; done), TD⟩
 ·replace c4 := Bool.eq_false_iff.mpr c4
  subst c4
  replace H := ifF H
  obtain rfl := Option.some.inj H
  go_enter Try.func21, Try.ntmps21
  go_wp2_with (first | ((with_reducible refine gate_callee (f := 72) rfl ?_); refine gL (some 6) Try.func72 #[.int .i64 a0] ?_; (with_reducible refine (impl_SetOk.calls a0 false _ A3.out).mono ?_); rintro e w' ⟨rfl, ⟨nd, rfl⟩⟩; refine ⟨_, rfl, ?_⟩))
  go_ret
  exact ⟨by first | rfl | (simp; done) | (simp [*]; done), TD⟩

end Go.Proofs.Ytfkndpjbkndhcaa.Q
