/- Functions of the program as plain Lean functions, and that a call of each comes to what its function tells. Written by a program of this seat. -/
import Derived.Test.YtnoplippaiblcaaQ0
import Derived.Test.YtnoplippaiblcaaQ11
import Derived.Test.YtnoplippaiblcaaQ21
import Derived.Test.YtnoplippaiblcaaQ33
namespace Go.Proofs.Ytnoplippaiblcaa.Q
open Go.RowKit Go.Proofs.YtnoplippaiblcaaW.PrintWords Go.Proofs.YtnoplippaiblcaaW.PrintLast Go.Proofs.YtnoplippaiblcaaW.PrintMore
attribute [local go_sem] max2_int min2_int max_two min_two max_three min_three max_four min_four   -- for this text's walks alone
set_option linter.unusedVariables false
set_option linter.unusedSimpArgs false

/-! ### spec_PieceAt: function 32 -/
def spec_PieceAt.f (k : Nat) (a0_0 : Int) (a0_1 : Int) (a0_2 : Int) (l0_3 : List (S72)) (a1_0 : Int) (l1_1 : List Int) (a2 : Int) : Option (List Int × Bool) := (spec_BuildOk.f k a0_0 a0_1 a0_2 l0_3 a1_0 l1_1).bind fun t630 => (if t630 = true then ((spec_InSet.f a1_0 a2).bind fun t631 => (if t631 = true then ((spec_SpanOf.f a0_1 a0_2 a2).bind fun bt632 => ((some (([] : List Int) : List Int)).bind fun y634 => (if 0 ≤ bt632.1 then (if bt632.1 ≤ (wrap64 (bt632.1 + bt632.2)) then (if (wrap64 (bt632.1 + bt632.2)) ≤ (l1_1.length : Int) then (if y634.length + ((l1_1.take ((wrap64 (bt632.1 + bt632.2)) : Int).toNat).drop (bt632.1 : Int).toNat).length < 140737488355328 then (some ((y634 ++ ((l1_1.take ((wrap64 (bt632.1 + bt632.2)) : Int).toNat).drop (bt632.1 : Int).toNat)), true)) else (none)) else (none)) else (none)) else (none)))) else (some ((([] : List Int)), false)))) else (some ((([] : List Int)), false)))
theorem spec_PieceAt.mono : ∀ a0 a1 a2 a3 a4 a5 a6 k, LeO (spec_PieceAt.f k a0 a1 a2 a3 a4 a5 a6) (spec_PieceAt.f (k + 1) a0 a1 a2 a3 a4 a5 a6) := by
  intro a0 a1 a2 a3 a4 a5 a6 k
  have m0_ := @spec_BuildOk.mono
  unfold spec_PieceAt.f
  exact LM
set_option maxHeartbeats 40000000 in
set_option maxRecDepth 100000 in
theorem spec_PieceAt.calls (k : Nat) (a0_0 : Int) (a0_1 : Int) (a0_2 : Int) (A0_3 : Option Addr) (c0_3 : Nat) (l0_3 : List (S72)) (a1_0 : Int) (A1_1 : Option Addr) (c1_1 : Nat) (l1_1 : List Int) (a2 : Int) (r1 : List Int) (r2 : Bool) (w : World) (hr0_3 : Kd.C k72 w A0_3 l0_3.length l0_3) (hc0_3 : l0_3.length ≤ c0_3) (hr1_1 : Kd.C (Kd.int .u8) w A1_1 l1_1.length l1_1) (hc1_1 : l1_1.length ≤ c1_1) (h : spec_PieceAt.f k a0_0 a0_1 a0_2 l0_3 a1_0 l1_1 a2 = some (r1, r2)) :
    Calls Try.prog 32 #[.agg #[.int .i64 a0_0, .int .i64 a0_1, .int .i64 a0_2, .slice A0_3 l0_3.length c0_3], .agg #[.int .i64 a1_0, .slice A1_1 l1_1.length c1_1], .int .i64 a2] w fun e w' => ∃ v0_ : Value, e = .returned (.tuple #[v0_, .bool r2]) ∧ Kd.R (Kd.int .u8) 5 w' w.heap.size (fun _ => True) v0_ r1 ∧ Below w.heap.size w w' := by
  have hu33 := Try.underlying33
  have hu35 := Try.underlying35
  have HR0_3 := aM hr0_3
  have HC0_3 := aM hc0_3
  clear hr0_3 hc0_3
  have HR1_1 := aM hr1_1
  have HC1_1 := aM hc1_1
  clear hr1_1 hc1_1
  have HB := aM (Below.refl w.heap.size w)
  have H := h
  clear h
  unfold spec_PieceAt.f at H
  replace H := bE H
  obtain ⟨t630, A4, H⟩ := H
  go_enter Try.func32, Try.ntmps32
  go_wp2_with (first | ((with_reducible refine gate_dst (N := 3) rfl ?_); refine gBx 3 #[.int .i64 a0_0, .int .i64 a0_1, .int .i64 a0_2, .slice A0_3 l0_3.length c0_3] 33 ?_; intro gb628 hg w6 hbox hb; have BK628 := aM (hbox); have GW628 := aM ((by rw [hg]; exact (below_size TB) : w.heap.size ≤ gb628)); have GE628 := aM ((by rw [hg]; exact (below_size TB) : w.heap.size ≤ gb628)); replace HB := aM (below_step TB hb); clear hb hbox hg) | ((with_reducible refine gate_dst (N := 4) rfl ?_); refine gBx 4 #[.int .i64 a1_0, .slice A1_1 l1_1.length c1_1] 35 ?_; intro gb629 hg w7 hbox hb; have BK629 := aM (hbox); have GW629 := aM ((by rw [hg]; exact (below_size TB) : w.heap.size ≤ gb629)); have GE629 := aM ((by rw [hg]; exact (below_size TB) : w.heap.size ≤ gb629)); have NB628_629 := aM ((by rw [hg]; exact Nat.ne_of_lt (blk_lt (by have X_ := BK628.out; exact TX)) : gb628 ≠ gb629)); have NB629_628 := aM ((by rw [hg]; exact Nat.ne_of_gt (blk_lt (by have X_ := BK628.out; exact TX)) : gb629 ≠ gb628)); replace BK628 := aM (blk_below (by have X_ := BK628.out; exact TX) hb); replace HB := aM (below_step TB hb); clear hb hbox hg; have hnb8 := NB628_629.out; have hnc8 := NB629_628.out; obtain ⟨hcz9_0, hcz9_1, hcz9_2, hcz9_3⟩ := cz4 BK628.out; obtain ⟨hfz9_0, hfz9_1, hfz9_2, hfz9_3⟩ := fz4 BK628.out; obtain ⟨hcz10_0, hcz10_1⟩ := cz2 BK629.out; obtain ⟨hfz10_0, hfz10_1⟩ := fz2 BK629.out) | ((with_reducible refine gate_callee (f := 28) rfl ?_); (with_reducible refine gate_dst (N := 12) rfl ?_); generalize hG_ : wpList _ _ _ _ _ _ = G_))
  subst hG_
  by_cases c11 : t630 = true
  · subst c11
    replace H := ifT H
    replace H := bE H
    obtain ⟨t631, A12, H⟩ := H
    by_cases c13 : t631 = true
    · subst c13
      replace H := ifT H
      replace H := bE H
      obtain ⟨⟨t632, t633⟩, A14, H⟩ := H
      dsimp only at H
      obtain ⟨y634, hy634⟩ : ∃ y_ : List Int, y_ = (([] : List Int)) := ⟨_, rfl⟩
      replace H := someE H hy634
      have Ny634 := aM hy634
      clear hy634
      replace H := ifN H
      obtain ⟨c15, H⟩ := H
      have c15b0 := eq_true c15
      have c15b1 : decide (0 ≤ t632) = true := decide_eq_true c15
      clear c15
      replace H := ifN H
      obtain ⟨c16, H⟩ := H
      have c16b0 := eq_true c16
      have c16b1 : decide (t632 ≤ (wrap64 (t632 + t633))) = true := decide_eq_true c16
      replace H := ifN H
      obtain ⟨c17, H⟩ := H
      have c17b0 := eq_true c17
      have c17b1 : decide ((wrap64 (t632 + t633)) ≤ (l1_1.length : Int)) = true := decide_eq_true c17
      replace H := ifN H
      obtain ⟨c18, H⟩ := H
      have LMc18 := aM c18
      clear c18
      obtain ⟨y638, hy638⟩ : ∃ y_ : List Int, y_ = (y634 ++ ((l1_1.take ((wrap64 (t632 + t633)) : Int).toNat).drop (t632 : Int).toNat)) := ⟨_, rfl⟩
      rw [← hy638] at H
      have Ny638 := aM hy638
      clear hy638
      simp only [Option.some.injEq, Prod.mk.injEq] at H
      obtain ⟨rfl, rfl⟩ := H
      go_wp2_with (first | ((with_reducible refine gate_callee (f := 28) rfl ?_); refine gL (some 12) Try.func28 #[.agg #[.int .i64 a0_0, .int .i64 a0_1, .int .i64 a0_2, .slice A0_3 l0_3.length c0_3], .agg #[.int .i64 a1_0, .slice A1_1 l1_1.length c1_1]] ?_; (with_reducible refine (spec_BuildOk.calls k a0_0 a0_1 a0_2 _ _ l0_3 a1_0 _ _ l1_1 true _ ?side1 ?side2 ?side3 ?side4 A4.out).mono ?_); (case side1 => repeat (first | exact (Kd.C_below HR0_3.out TB) | (with_reducible refine Kd.C_alloc ?_ _) | (with_reducible refine Kd.C_drewN ?_ _) | (with_reducible refine Kd.C_drew ?_))); (case side2 => exact HC0_3.out); (case side3 => repeat (first | exact (Kd.C_below HR1_1.out TB) | (with_reducible refine Kd.C_alloc ?_ _) | (with_reducible refine Kd.C_drewN ?_ _) | (with_reducible refine Kd.C_drew ?_))); (case side4 => exact HC1_1.out); rintro e w19 ⟨rfl, hb⟩; refine ⟨_, rfl, ?_⟩; replace BK628 := aM (blk_below (by have X_ := BK628.out; exact TX) hb); replace BK629 := aM (blk_below (by have X_ := BK629.out; exact TX) hb); replace HB := aM (below_step TB hb); clear hb; have hnb20 := NB629_628.out; have hnc20 := NB628_629.out; obtain ⟨hcz21_0, hcz21_1⟩ := cz2 BK629.out; obtain ⟨hfz21_0, hfz21_1⟩ := fz2 BK629.out) | (go_at_call 58; (with_reducible refine (spec_InSet.calls a1_0 a2 true _ A12.out).mono ?_); rintro e w' ⟨rfl, ⟨nd, rfl⟩⟩; obtain ⟨hcz22_0, hcz22_1, hcz22_2, hcz22_3⟩ := cz4 BK628.out; obtain ⟨hfz22_0, hfz22_1, hfz22_2, hfz22_3⟩ := fz4 BK628.out) | ((with_reducible refine gate_callee (f := 53) rfl ?_); refine gL (some 28) Try.func53 #[.int .i64 a0_1, .int .i64 a0_2, .int .i64 a2] ?_; (with_reducible refine (spec_SpanOf.calls a0_1 a0_2 a2 t632 t633 _ A14.out).mono ?_); rintro e w' ⟨rfl, ⟨nd, rfl⟩⟩; refine ⟨_, rfl, ?_⟩) | ((with_reducible refine gate_dst (N := 31) rfl ?_); refine Kd.R_lit (Kd.int .u8) _ 5 ?hg (N := 31) ?hd (xs := ([] : List Int)) (inner := []) (ok := fun _ => True) (okp := fun _ => True) ?hr ?hp (fun _ hk => hk) trivial (Below.refl _ _) (Nat.le_refl _) (by simp) ?_; (case hd => rfl); (case hg => rfl); (case hr => first | (go_simp; done) | (go_simp; rfl)); (case hp => exact (Reps.none _ _)); intro v635 w23 ho24 hb hg_ hnew_; clear hg_ hnew_; (first | rw [← Ny634.out] at ho24 | (simp only [Int.reduceToNat] at ho24; rw [← Ny634.out] at ho24)); have HO636 := aM (Kd.R_lower ho24 (below_size TB)); replace BK628 := aM (blk_below (by have X_ := BK628.out; exact TX) hb); replace BK629 := aM (blk_below (by have X_ := BK629.out; exact TX) hb); replace HB := aM (below_step TB hb); clear hb ho24; obtain ⟨hcz25_0, hcz25_1⟩ := cz2 BK629.out; obtain ⟨hfz25_0, hfz25_1⟩ := fz2 BK629.out; obtain ⟨i026, hi026, _, hsz26, _⟩ := info_parts info5; obtain ⟨A26, hcut26, hA26, hC26⟩ := print_mid_of (P := Try.prog) (Value.int .u8) 0 25 5 .i64 .i64 Try.underlying25 hi026 hsz26 A1_1 c1_1 l1_1 t632 (wrap64 (t632 + t633)) DT (by first | omega | exact DT) DT HC1_1.out; have HR637 := aM (Kd.C_of_reads (h1 := fun _ => rfl) (hA26 _ (Kd.reads_of_C HR1_1.out))); have HC637 := aM hC26; clear hA26 hC26 hi026 hsz26) | ((with_reducible refine gate_builtin (b := .append) (xs := #[.tmp 31, .tmp 38]) rfl ?_); at_builtin; refine Kd.R_append_rows (Kd.int .u8) (w0 := w) w.heap.size rfl (.tmp 31) (.tmp 38) 25 5 (.int .u8 0) 1 rfl Try.underlying25 info5 rfl (by decide) (by omega) v635 y634 ((l1_1.take ((wrap64 (t632 + t633)) : Int).toNat).drop (t632 : Int).toNat) _ _ _ (fun _ => True) (fun _ => False) rfl rfl ?aO ?aR (fun _ _ h => h) (fun _ h => h.elim) ?aF ?aB ?aS ?aL ?_; (case aR => first | (rw [← show ((l1_1.take ((wrap64 (t632 + t633)) : Int).toNat).drop (t632 : Int).toNat).length = ((wrap64 (t632 + t633)).toNat - t632.toNat) from (by rw [List.length_drop, List.length_take]; have h_ : ((wrap64 (t632 + t633)) : Int) ≤ (l1_1.length : Int) := DT; omega)]; repeat (first | exact (Kd.C_below HR637.out HB.out) | (with_reducible refine Kd.C_alloc ?_ _) | (with_reducible refine Kd.C_drewN ?_ _) | (with_reducible refine Kd.C_drew ?_))) | (repeat (first | exact (Kd.C_below HR637.out HB.out) | (with_reducible refine Kd.C_alloc ?_ _) | (with_reducible refine Kd.C_drewN ?_ _) | (with_reducible refine Kd.C_drew ?_)))); (case aB => exact TB); (case aF => exact (fun _ _ => trivial)); (case aO => exact (by have X_ := HO636.out; exact TR)); (case aS => exact (below_size TB)); (case aL => have := LMc18.out; have hlx_ := (show ((l1_1.take ((wrap64 (t632 + t633)) : Int).toNat).drop (t632 : Int).toNat).length = ((wrap64 (t632 + t633)).toNat - t632.toNat) from (by rw [List.length_drop, List.length_take]; have h_ : ((wrap64 (t632 + t633)) : Int) ≤ (l1_1.length : Int) := DT; omega)); omega); intro v639 w27 ho hb hg hat; rw [← Ny638.out] at ho; have HO640 := aM (ho); replace BK628 := aM (blk_grown (g := gb628) (o := .cells #[.int .i64 a0_0, .int .i64 a0_1, .int .i64 a0_2, .slice A0_3 l0_3.length c0_3] 33 (0, 0)) TK hg (Kd.R_ne HO636.out BK628.out (by decide))); replace BK629 := aM (blk_grown (g := gb629) (o := .cells #[.int .i64 a1_0, .slice A1_1 l1_1.length c1_1] 35 (0, 0)) TK hg (Kd.R_ne HO636.out BK629.out (by decide))); replace HB := aM (hb); clear HO636; clear ho hb hg hat))
      go_ret2
      exact ⟨_, by first | rfl | (simp [errW_none, errW_some] <;> rfl) | (simp [*, errW_none, errW_some] <;> rfl), by have X_ := HO640.out; exact TR, TB⟩
    · replace c13 := Bool.eq_false_iff.mpr c13
      subst c13
      replace H := ifF H
      obtain ⟨y641, hy641⟩ : ∃ y_ : List Int, y_ = (([] : List Int)) := ⟨_, rfl⟩
      rw [← hy641] at H
      have Ny641 := aM hy641
      clear hy641
      simp only [Option.some.injEq, Prod.mk.injEq] at H
      obtain ⟨rfl, rfl⟩ := H
      go_wp2_with (first | ((with_reducible refine gate_callee (f := 28) rfl ?_); refine gL (some 12) Try.func28 #[.agg #[.int .i64 a0_0, .int .i64 a0_1, .int .i64 a0_2, .slice A0_3 l0_3.length c0_3], .agg #[.int .i64 a1_0, .slice A1_1 l1_1.length c1_1]] ?_; (with_reducible refine (spec_BuildOk.calls k a0_0 a0_1 a0_2 _ _ l0_3 a1_0 _ _ l1_1 true _ ?side1 ?side2 ?side3 ?side4 A4.out).mono ?_); (case side1 => repeat (first | exact (Kd.C_below HR0_3.out TB) | (with_reducible refine Kd.C_alloc ?_ _) | (with_reducible refine Kd.C_drewN ?_ _) | (with_reducible refine Kd.C_drew ?_))); (case side2 => exact HC0_3.out); (case side3 => repeat (first | exact (Kd.C_below HR1_1.out TB) | (with_reducible refine Kd.C_alloc ?_ _) | (with_reducible refine Kd.C_drewN ?_ _) | (with_reducible refine Kd.C_drew ?_))); (case side4 => exact HC1_1.out); rintro e w28 ⟨rfl, hb⟩; refine ⟨_, rfl, ?_⟩; replace BK628 := aM (blk_below (by have X_ := BK628.out; exact TX) hb); replace BK629 := aM (blk_below (by have X_ := BK629.out; exact TX) hb); replace HB := aM (below_step TB hb); clear hb; have hnb29 := NB629_628.out; have hnc29 := NB628_629.out; obtain ⟨hcz30_0, hcz30_1⟩ := cz2 BK629.out; obtain ⟨hfz30_0, hfz30_1⟩ := fz2 BK629.out) | (go_at_call 58; (with_reducible refine (spec_InSet.calls a1_0 a2 false _ A12.out).mono ?_); rintro e w' ⟨rfl, ⟨nd, rfl⟩⟩) | ((with_reducible refine gate_dst (N := 21) rfl ?_); refine Kd.R_lit (Kd.int .u8) _ 5 ?hg (N := 21) ?hd (xs := ([] : List Int)) (inner := []) (ok := fun _ => True) (okp := fun _ => True) ?hr ?hp (fun _ hk => hk) trivial (Below.refl _ _) (Nat.le_refl _) (by simp) ?_; (case hd => rfl); (case hg => rfl); (case hr => first | (go_simp; done) | (go_simp; rfl)); (case hp => exact (Reps.none _ _)); intro v642 w31 ho32 hb hg_ hnew_; clear hg_ hnew_; (first | rw [← Ny641.out] at ho32 | (simp only [Int.reduceToNat] at ho32; rw [← Ny641.out] at ho32)); have HO643 := aM (Kd.R_lower ho32 (below_size TB)); replace BK628 := aM (blk_below (by have X_ := BK628.out; exact TX) hb); replace BK629 := aM (blk_below (by have X_ := BK629.out; exact TX) hb); replace HB := aM (below_step TB hb); clear hb ho32))
      go_ret2
      exact ⟨_, by first | rfl | (simp [errW_none, errW_some] <;> rfl) | (simp [*, errW_none, errW_some] <;> rfl), by have X_ := HO643.out; exact TR, TB⟩
  · replace c11 := Bool.eq_false_iff.mpr c11
    subst c11
    replace H := ifF H
    obtain ⟨y644, hy644⟩ : ∃ y_ : List Int, y_ = (([] : List Int)) := ⟨_, rfl⟩
    rw [← hy644] at H
    have Ny644 := aM hy644
    clear hy644
    simp only [Option.some.injEq, Prod.mk.injEq] at H
    obtain ⟨rfl, rfl⟩ := H
    go_wp2_with (first | ((with_reducible refine gate_callee (f := 28) rfl ?_); refine gL (some 12) Try.func28 #[.agg #[.int .i64 a0_0, .int .i64 a0_1, .int .i64 a0_2, .slice A0_3 l0_3.length c0_3], .agg #[.int .i64 a1_0, .slice A1_1 l1_1.length c1_1]] ?_; (with_reducible refine (spec_BuildOk.calls k a0_0 a0_1 a0_2 _ _ l0_3 a1_0 _ _ l1_1 false _ ?side1 ?side2 ?side3 ?side4 A4.out).mono ?_); (case side1 => repeat (first | exact (Kd.C_below HR0_3.out TB) | (with_reducible refine Kd.C_alloc ?_ _) | (with_reducible refine Kd.C_drewN ?_ _) | (with_reducible refine Kd.C_drew ?_))); (case side2 => exact HC0_3.out); (case side3 => repeat (first | exact (Kd.C_below HR1_1.out TB) | (with_reducible refine Kd.C_alloc ?_ _) | (with_reducible refine Kd.C_drewN ?_ _) | (with_reducible refine Kd.C_drew ?_))); (case side4 => exact HC1_1.out); rintro e w33 ⟨rfl, hb⟩; refine ⟨_, rfl, ?_⟩; replace BK628 := aM (blk_below (by have X_ := BK628.out; exact TX) hb); replace BK629 := aM (blk_below (by have X_ := BK629.out; exact TX) hb); replace HB := aM (below_step TB hb); clear hb) | ((with_reducible refine gate_dst (N := 21) rfl ?_); refine Kd.R_lit (Kd.int .u8) _ 5 ?hg (N := 21) ?hd (xs := ([] : List Int)) (inner := []) (ok := fun _ => True) (okp := fun _ => True) ?hr ?hp (fun _ hk => hk) trivial (Below.refl _ _) (Nat.le_refl _) (by simp) ?_; (case hd => rfl); (case hg => rfl); (case hr => first | (go_simp; done) | (go_simp; rfl)); (case hp => exact (Reps.none _ _)); intro v645 w34 ho35 hb hg_ hnew_; clear hg_ hnew_; (first | rw [← Ny644.out] at ho35 | (simp only [Int.reduceToNat] at ho35; rw [← Ny644.out] at ho35)); have HO646 := aM (Kd.R_lower ho35 (below_size TB)); replace BK628 := aM (blk_below (by have X_ := BK628.out; exact TX) hb); replace BK629 := aM (blk_below (by have X_ := BK629.out; exact TX) hb); replace HB := aM (below_step TB hb); clear hb ho35))
    go_ret2
    exact ⟨_, by first | rfl | (simp [errW_none, errW_some] <;> rfl) | (simp [*, errW_none, errW_some] <;> rfl), by have X_ := HO646.out; exact TR, TB⟩

end Go.Proofs.Ytnoplippaiblcaa.Q
