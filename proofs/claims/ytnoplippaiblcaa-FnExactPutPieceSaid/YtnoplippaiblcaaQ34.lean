/- Functions of the program as plain Lean functions, and that a call of each comes to what its function tells. Written by a program of this seat. -/
import Derived.Test.YtnoplippaiblcaaQ0
import Derived.Test.YtnoplippaiblcaaQ11
namespace Go.Proofs.Ytnoplippaiblcaa.Q
open Go.RowKit Go.Proofs.YtnoplippaiblcaaW.PrintWords Go.Proofs.YtnoplippaiblcaaW.PrintLast Go.Proofs.YtnoplippaiblcaaW.PrintMore
attribute [local go_sem] max2_int min2_int max_two min_two max_three min_three max_four min_four   -- for this text's walks alone
set_option linter.unusedVariables false
set_option linter.unusedSimpArgs false

/-! ### impl_Build_block: function 62 -/
def impl_Build_block.f (a0_0 : Int) (l0_1 : List Int) (a1_0 : Int) (a1_1 : Int) (a1_2 : Int) (l1_3 : List (S72)) (a2 : Int) : Option (List Int) := (impl_SpanOf.f a1_1 a1_2 a2).bind fun bt513 => (if 0 ≤ bt513.1 then (if bt513.1 ≤ (wrap64 (bt513.1 + bt513.2)) then (if (wrap64 (bt513.1 + bt513.2)) ≤ (l0_1.length : Int) then (some ((l0_1.take ((wrap64 (bt513.1 + bt513.2)) : Int).toNat).drop (bt513.1 : Int).toNat)) else (none)) else (none)) else (none))
set_option maxHeartbeats 40000000 in
set_option maxRecDepth 100000 in
theorem impl_Build_block.calls (a0_0 : Int) (P0_1_ : Nat → Prop) (A0_1 : Option Addr) (c0_1 : Nat) (l0_1 : List Int) (a1_0 : Int) (a1_1 : Int) (a1_2 : Int) (A1_3 : Option Addr) (c1_3 : Nat) (l1_3 : List (S72)) (a2 : Int) (r : List Int) (w : World) (hs0_1 : Kd.V (Kd.int .u8) 5 w w.heap.size (fun k_ => P0_1_ k_) (.slice A0_1 l0_1.length c0_1) l0_1) (hr1_3 : Kd.C k72 w A1_3 l1_3.length l1_3) (hc1_3 : l1_3.length ≤ c1_3) (h : impl_Build_block.f a0_0 l0_1 a1_0 a1_1 a1_2 l1_3 a2 = some r) :
    Calls Try.prog 62 #[.agg #[.int .i64 a0_0, .slice A0_1 l0_1.length c0_1], .agg #[.int .i64 a1_0, .int .i64 a1_1, .int .i64 a1_2, .slice A1_3 l1_3.length c1_3], .int .i64 a2] w fun e w' => ∃ v0_ : Value, e = .returned (v0_) ∧ Kd.V (Kd.int .u8) 5 w' w.heap.size (fun k_ => (P0_1_ k_ ∨ w.heap.size ≤ k_)) v0_ r ∧ Below w.heap.size w w' := by
  have hu35 := Try.underlying35
  have hu33 := Try.underlying33
  have HO0_1 := aM (show Kd.V (Kd.int .u8) 5 w w.heap.size (fun k_ => (P0_1_ k_ ∨ w.heap.size ≤ k_)) (.slice A0_1 l0_1.length c0_1) l0_1 from Kd.V_mono hs0_1 (fun k_ hk => .inl hk))
  have HR1_3 := aM hr1_3
  have HC1_3 := aM hc1_3
  clear hr1_3 hc1_3
  have HB := aM (Below.refl w.heap.size w)
  have H := h
  clear h
  unfold impl_Build_block.f at H
  replace H := bE H
  obtain ⟨⟨t513, t514⟩, A4, H⟩ := H
  dsimp only at H
  replace H := ifN H
  obtain ⟨c5, H⟩ := H
  have c5b0 := eq_true c5
  have c5b1 : decide (0 ≤ t513) = true := decide_eq_true c5
  clear c5
  replace H := ifN H
  obtain ⟨c6, H⟩ := H
  have c6b0 := eq_true c6
  have c6b1 : decide (t513 ≤ (wrap64 (t513 + t514))) = true := decide_eq_true c6
  replace H := ifN H
  obtain ⟨c7, H⟩ := H
  have c7b0 := eq_true c7
  have c7b1 : decide ((wrap64 (t513 + t514)) ≤ (l0_1.length : Int)) = true := decide_eq_true c7
  obtain ⟨y515, hy515⟩ : ∃ y_ : List Int, y_ = ((l0_1.take ((wrap64 (t513 + t514)) : Int).toNat).drop (t513 : Int).toNat) := ⟨_, rfl⟩
  rw [← hy515] at H
  have Ny515 := aM hy515
  clear hy515
  obtain rfl := Option.some.inj H
  go_enter Try.func62, Try.ntmps62
  go_wp2_with (first | ((with_reducible refine gate_dst (N := 3) rfl ?_); refine gBx 3 #[.int .i64 a0_0, .slice A0_1 l0_1.length c0_1] 35 ?_; intro gb511 hg w8 hbox hb; have BK511 := aM (hbox); have GW511 := aM ((by rw [hg]; exact (below_size TB) : w.heap.size ≤ gb511)); have GE511 := aM ((by rw [hg]; exact (below_size TB) : w.heap.size ≤ gb511)); replace HO0_1 := aM (Kd.V_below (Kd.V_elderB (by (with_reducible repeat (first | apply Kd.V_alloc | apply Kd.V_drewN | apply Kd.V_drew)); exact HO0_1.out) gb511 (Nat.le_of_eq hg.symm)) hb); replace HB := aM (below_step TB hb); clear hb hbox hg) | ((with_reducible refine gate_dst (N := 4) rfl ?_); refine gBx 4 #[.int .i64 a1_0, .int .i64 a1_1, .int .i64 a1_2, .slice A1_3 l1_3.length c1_3] 33 ?_; intro gb512 hg w9 hbox hb; have BK512 := aM (hbox); have GW512 := aM ((by rw [hg]; exact (below_size TB) : w.heap.size ≤ gb512)); have GE512 := aM ((by rw [hg]; exact (below_size TB) : w.heap.size ≤ gb512)); have NB511_512 := aM ((by rw [hg]; exact Nat.ne_of_lt (blk_lt (by have X_ := BK511.out; exact TX)) : gb511 ≠ gb512)); have NB512_511 := aM ((by rw [hg]; exact Nat.ne_of_gt (blk_lt (by have X_ := BK511.out; exact TX)) : gb512 ≠ gb511)); replace HO0_1 := aM (Kd.V_below (Kd.V_elderB (by (with_reducible repeat (first | apply Kd.V_alloc | apply Kd.V_drewN | apply Kd.V_drew)); exact HO0_1.out) gb512 (Nat.le_of_eq hg.symm)) hb); replace BK511 := aM (blk_below (by have X_ := BK511.out; exact TX) hb); replace HB := aM (below_step TB hb); clear hb hbox hg; have hnb10 := NB512_511.out; have hnc10 := NB511_512.out; obtain ⟨hcz11_0, hcz11_1, hcz11_2, hcz11_3⟩ := cz4 BK512.out; obtain ⟨hfz11_0, hfz11_1, hfz11_2, hfz11_3⟩ := fz4 BK512.out) | ((with_reducible refine gate_callee (f := 56) rfl ?_); refine gL (some 15) Try.func56 #[.int .i64 a1_1, .int .i64 a1_2, .int .i64 a2] ?_; (with_reducible refine (impl_SpanOf.calls a1_1 a1_2 a2 t513 t514 _ A4.out).mono ?_); rintro e w12 ⟨rfl, hb⟩; refine ⟨_, rfl, ?_⟩; replace HO0_1 := aM (Kd.V_below (by (with_reducible repeat (first | apply Kd.V_alloc | apply Kd.V_drewN | apply Kd.V_drew)); exact HO0_1.out) hb); replace BK511 := aM (blk_below (by have X_ := BK511.out; exact TX) hb); replace BK512 := aM (blk_below (by have X_ := BK512.out; exact TX) hb); replace HB := aM (below_step TB hb); clear hb; obtain ⟨hcz13_0, hcz13_1⟩ := cz2 BK511.out; obtain ⟨hfz13_0, hfz13_1⟩ := fz2 BK511.out; have q14 : ((wrap64 (t513 + t514)) : Int) ≤ ((l0_1.length : Int) : Int) := DT; obtain ⟨i014, hi014, _, hsz14, _⟩ := info_parts info5; have hroom14 : l0_1.length ≤ c0_1 := (Kd.V_reads' HO0_1.out).2.1; have hC14 : Kd.F (Kd.int .u8) _ _ A0_1 l0_1.length l0_1 := (Kd.V_at (base := w.heap.size) HO0_1.out).2.2; have ql14 : (t513 : Int) ≤ ((wrap64 (t513 + t514)) : Int) := DT; have q014 : (0 : Int) ≤ (t513 : Int) := DT; have hcut14 := cut_mid (P := Try.prog) 25 5 .i64 .i64 Try.underlying25 hi014 1 hsz14 A0_1 l0_1.length c0_1 t513 (wrap64 (t513 + t514)) q014 ql14 q14 hroom14; have hr14 := Kd.F_mid (lo := (t513 : Int).toNat) (hi := ((wrap64 (t513 + t514)) : Int).toNat) (c := c0_1) hC14 (by omega) (by omega) hroom14; obtain ⟨A14, hA14⟩ : ∃ A1, A1 = (if c0_1 = (t513 : Int).toNat then A0_1 else (A0_1 : Option Addr).map (·.add ((t513 : Int).toNat * 1))) := ⟨_, rfl⟩; obtain ⟨c14, hc14⟩ : ∃ c1, c1 = c0_1 - (t513 : Int).toNat := ⟨_, rfl⟩; have hy14 : y515.length = ((wrap64 (t513 + t514)) : Int).toNat - (t513 : Int).toNat := (by rw [Ny515.out, List.length_drop, List.length_take] <;> omega); rw [show ((l0_1).take ((wrap64 (t513 + t514)) : Int).toNat).drop (t513 : Int).toNat = y515 from Ny515.out.symm] at hr14; replace hr14 : Kd.F (Kd.int .u8) _ _ A14 y515.length y515 := (by rw [hA14]; exact hr14); rw [← hy14, ← hA14, ← hc14] at hcut14; have HO519 := aM (show Kd.V (Kd.int .u8) 5 _ w.heap.size _ (.slice A14 y515.length c14) y515 from Kd.V_mk (by rw [hy14, hc14]; exact Nat.sub_le_sub_right (Nat.le_trans (by omega) hroom14) _) hr14); have HC519 := aM (show y515.length ≤ c14 from by rw [hy14, hc14]; exact Nat.sub_le_sub_right (Nat.le_trans (by omega) hroom14) _); clear hr14 hC14 hroom14 hi014 hsz14 hc14; have KY14 := aM hy14; have KA14 := aM hA14; clear hy14 hA14; replace q14 := eq_true q14))
  go_ret
  exact ⟨_, by first | rfl | (simp [errW_none, errW_some] <;> rfl) | (simp [*, errW_none, errW_some] <;> rfl), by (with_reducible repeat (first | apply Kd.V_alloc | apply Kd.V_drewN | apply Kd.V_drew)); exact Kd.V_mono HO519.out (fun _ hk => hk.1.1), TB⟩

end Go.Proofs.Ytnoplippaiblcaa.Q
