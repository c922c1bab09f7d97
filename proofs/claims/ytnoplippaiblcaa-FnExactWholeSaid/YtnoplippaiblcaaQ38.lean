/- Functions of the program as plain Lean functions, and that a call of each comes to what its function tells. Written by a program of this seat. -/
import Derived.Test.YtnoplippaiblcaaQ0
import Derived.Test.YtnoplippaiblcaaQ7
import Derived.Test.YtnoplippaiblcaaQ33
import Derived.Test.YtnoplippaiblcaaQ36
namespace Go.Proofs.Ytnoplippaiblcaa.Q
open Go.RowKit Go.Proofs.YtnoplippaiblcaaW.PrintWords Go.Proofs.YtnoplippaiblcaaW.PrintLast Go.Proofs.YtnoplippaiblcaaW.PrintMore
attribute [local go_sem] max2_int min2_int max_two min_two max_three min_three max_four min_four   -- for this text's walks alone
set_option linter.unusedVariables false
set_option linter.unusedSimpArgs false

/-! ### spec_Whole: function 30 -/
def spec_Whole.f (k : Nat) (a0_0 : Int) (a0_1 : Int) (a0_2 : Int) (l0_3 : List (S72)) (a1_0 : Int) (l1_1 : List Int) : Option (Bool) := if a0_0 = 0 then (some false) else ((spec_BuildOk.f k a0_0 a0_1 a0_2 l0_3 a1_0 l1_1).bind fun t582 => (if t582 = true then ((spec_Missing.f a0_0 a0_1 a0_2 l0_3 a1_0 l1_1).bind fun t583 => (some (t583 == 0))) else (some false)))
theorem spec_Whole.mono : ∀ a0 a1 a2 a3 a4 a5 k, LeO (spec_Whole.f k a0 a1 a2 a3 a4 a5) (spec_Whole.f (k + 1) a0 a1 a2 a3 a4 a5) := by
  intro a0 a1 a2 a3 a4 a5 k
  have m0_ := @spec_BuildOk.mono
  unfold spec_Whole.f
  exact LM
set_option maxHeartbeats 40000000 in
set_option maxRecDepth 100000 in
theorem spec_Whole.calls (k : Nat) (a0_0 : Int) (a0_1 : Int) (a0_2 : Int) (A0_3 : Option Addr) (c0_3 : Nat) (l0_3 : List (S72)) (a1_0 : Int) (A1_1 : Option Addr) (c1_1 : Nat) (l1_1 : List Int) (r : Bool) (w : World) (hr0_3 : Kd.C k72 w A0_3 l0_3.length l0_3) (hc0_3 : l0_3.length ≤ c0_3) (hr1_1 : Kd.C (Kd.int .u8) w A1_1 l1_1.length l1_1) (hc1_1 : l1_1.length ≤ c1_1) (h : spec_Whole.f k a0_0 a0_1 a0_2 l0_3 a1_0 l1_1 = some r) :
    Calls Try.prog 30 #[.agg #[.int .i64 a0_0, .int .i64 a0_1, .int .i64 a0_2, .slice A0_3 l0_3.length c0_3], .agg #[.int .i64 a1_0, .slice A1_1 l1_1.length c1_1]] w fun e w' => e = .returned (.bool r) ∧ Below w.heap.size w w' := by
  have hu33 := Try.underlying33
  have hu35 := Try.underlying35
  have HR0_3 := aM hr0_3
  have HC0_3 := aM hc0_3
  clear hr0_3 hc0_3
  have HR1_1 := aM hr1_1
  have HC1_1 := aM hc1_1
  clear hr1_1 hc1_1
  have HB := aM (Below.refl w.heap.size w)
  have H := h
  clear h
  unfold spec_Whole.f at H
  by_cases c3 : a0_0 = 0
  · rw [if_pos c3] at H
    have c3b0 : (a0_0 == 0) = true := beq_iff_eq.mpr c3
    have c3b1 : (a0_0 != 0) = false := bne_eq_false_iff_eq.mpr c3
    clear c3
    obtain rfl := Option.some.inj H
    go_enter Try.func30, Try.ntmps30
    go_wp2_with (first | ((with_reducible refine gate_dst (N := 2) rfl ?_); refine gBx 2 #[.int .i64 a0_0, .int .i64 a0_1, .int .i64 a0_2, .slice A0_3 l0_3.length c0_3] 33 ?_; intro gb580 hg w4 hbox hb; have BK580 := aM (hbox); have GW580 := aM ((by rw [hg]; exact (below_size TB) : w.heap.size ≤ gb580)); have GE580 := aM ((by rw [hg]; exact (below_size TB) : w.heap.size ≤ gb580)); replace HB := aM (below_step TB hb); clear hb hbox hg) | ((with_reducible refine gate_dst (N := 3) rfl ?_); refine gBx 3 #[.int .i64 a1_0, .slice A1_1 l1_1.length c1_1] 35 ?_; intro gb581 hg w5 hbox hb; have BK581 := aM (hbox); have GW581 := aM ((by rw [hg]; exact (below_size TB) : w.heap.size ≤ gb581)); have GE581 := aM ((by rw [hg]; exact (below_size TB) : w.heap.size ≤ gb581)); have NB580_581 := aM ((by rw [hg]; exact Nat.ne_of_lt (blk_lt (by have X_ := BK580.out; exact TX)) : gb580 ≠ gb581)); have NB581_580 := aM ((by rw [hg]; exact Nat.ne_of_gt (blk_lt (by have X_ := BK580.out; exact TX)) : gb581 ≠ gb580)); replace BK580 := aM (blk_below (by have X_ := BK580.out; exact TX) hb); replace HB := aM (below_step TB hb); clear hb hbox hg; have hnb6 := NB580_581.out; have hnc6 := NB581_580.out; obtain ⟨hcz7_0, hcz7_1, hcz7_2, hcz7_3⟩ := cz4 BK580.out; obtain ⟨hfz7_0, hfz7_1, hfz7_2, hfz7_3⟩ := fz4 BK580.out))
    go_ret
    exact ⟨by first | rfl | (simp [errW_none, errW_some] <;> rfl) | (simp [*, errW_none, errW_some] <;> rfl), TB⟩
  · rw [if_neg c3] at H
    have c3b0 : (a0_0 == 0) = false := beq_eq_false_iff_ne.mpr c3
    have c3b1 : (a0_0 != 0) = true := bne_iff_ne.mpr c3
    replace H := bE H
    obtain ⟨t582, A8, H⟩ := H
    by_cases c9 : t582 = true
    · subst c9
      replace H := ifT H
      replace H := bE H
      obtain ⟨t583, A10, H⟩ := H
      obtain rfl := Option.some.inj H
      go_enter Try.func30, Try.ntmps30
      go_wp2_with (first | ((with_reducible refine gate_dst (N := 2) rfl ?_); refine gBx 2 #[.int .i64 a0_0, .int .i64 a0_1, .int .i64 a0_2, .slice A0_3 l0_3.length c0_3] 33 ?_; intro gb580 hg w11 hbox hb; have BK580 := aM (hbox); have GW580 := aM ((by rw [hg]; exact (below_size TB) : w.heap.size ≤ gb580)); have GE580 := aM ((by rw [hg]; exact (below_size TB) : w.heap.size ≤ gb580)); replace HB := aM (below_step TB hb); clear hb hbox hg) | ((with_reducible refine gate_dst (N := 3) rfl ?_); refine gBx 3 #[.int .i64 a1_0, .slice A1_1 l1_1.length c1_1] 35 ?_; intro gb581 hg w12 hbox hb; have BK581 := aM (hbox); have GW581 := aM ((by rw [hg]; exact (below_size TB) : w.heap.size ≤ gb581)); have GE581 := aM ((by rw [hg]; exact (below_size TB) : w.heap.size ≤ gb581)); have NB580_581 := aM ((by rw [hg]; exact Nat.ne_of_lt (blk_lt (by have X_ := BK580.out; exact TX)) : gb580 ≠ gb581)); have NB581_580 := aM ((by rw [hg]; exact Nat.ne_of_gt (blk_lt (by have X_ := BK580.out; exact TX)) : gb581 ≠ gb580)); replace BK580 := aM (blk_below (by have X_ := BK580.out; exact TX) hb); replace HB := aM (below_step TB hb); clear hb hbox hg; have hnb13 := NB580_581.out; have hnc13 := NB581_580.out; obtain ⟨hcz14_0, hcz14_1, hcz14_2, hcz14_3⟩ := cz4 BK580.out; obtain ⟨hfz14_0, hfz14_1, hfz14_2, hfz14_3⟩ := fz4 BK580.out; obtain ⟨hcz15_0, hcz15_1⟩ := cz2 BK581.out; obtain ⟨hfz15_0, hfz15_1⟩ := fz2 BK581.out) | (go_at_call 28; (with_reducible refine (spec_BuildOk.calls k a0_0 a0_1 a0_2 _ _ l0_3 a1_0 _ _ l1_1 true _ ?side1 ?side2 ?side3 ?side4 A8.out).mono ?_); (case side1 => have X_ := (Kd.C_below HR0_3.out HB.out); exact TC); (case side2 => exact HC0_3.out); (case side3 => have X_ := (Kd.C_below HR1_1.out HB.out); exact TC); (case side4 => exact HC1_1.out); rintro e w16 ⟨rfl, hb⟩; replace BK580 := aM (blk_below (by have X_ := BK580.out; exact TX) hb); replace BK581 := aM (blk_below (by have X_ := BK581.out; exact TX) hb); replace HB := aM (below_step TB hb); clear hb; obtain ⟨hcz17_0, hcz17_1, hcz17_2, hcz17_3⟩ := cz4 BK580.out; obtain ⟨hfz17_0, hfz17_1, hfz17_2, hfz17_3⟩ := fz4 BK580.out; obtain ⟨hcz18_0, hcz18_1⟩ := cz2 BK581.out; obtain ⟨hfz18_0, hfz18_1⟩ := fz2 BK581.out) | (go_at_call 13; (with_reducible refine (spec_Missing.calls a0_0 a0_1 a0_2 _ _ l0_3 a1_0 _ _ l1_1 t583 _ ?side1 ?side2 ?side3 ?side4 A10.out).mono ?_); (case side1 => have X_ := (Kd.C_below HR0_3.out HB.out); exact TC); (case side2 => exact HC0_3.out); (case side3 => have X_ := (Kd.C_below HR1_1.out HB.out); exact TC); (case side4 => exact HC1_1.out); rintro e w19 ⟨rfl, hb⟩; replace BK580 := aM (blk_below (by have X_ := BK580.out; exact TX) hb); replace BK581 := aM (blk_below (by have X_ := BK581.out; exact TX) hb); replace HB := aM (below_step TB hb); clear hb))
      go_ret
      exact ⟨by first | rfl | (simp [errW_none, errW_some] <;> rfl) | (simp [*, errW_none, errW_some] <;> rfl), TB⟩
    · replace c9 := Bool.eq_false_iff.mpr c9
      subst c9
      replace H := ifF H
      obtain rfl := Option.some.inj H
      go_enter Try.func30, Try.ntmps30
      go_wp2_with (first | ((with_reducible refine gate_dst (N := 2) rfl ?_); refine gBx 2 #[.int .i64 a0_0, .int .i64 a0_1, .int .i64 a0_2, .slice A0_3 l0_3.length c0_3] 33 ?_; intro gb580 hg w20 hbox hb; have BK580 := aM (hbox); have GW580 := aM ((by rw [hg]; exact (below_size TB) : w.heap.size ≤ gb580)); have GE580 := aM ((by rw [hg]; exact (below_size TB) : w.heap.size ≤ gb580)); replace HB := aM (below_step TB hb); clear hb hbox hg) | ((with_reducible refine gate_dst (N := 3) rfl ?_); refine gBx 3 #[.int .i64 a1_0, .slice A1_1 l1_1.length c1_1] 35 ?_; intro gb581 hg w21 hbox hb; have BK581 := aM (hbox); have GW581 := aM ((by rw [hg]; exact (below_size TB) : w.heap.size ≤ gb581)); have GE581 := aM ((by rw [hg]; exact (below_size TB) : w.heap.size ≤ gb581)); have NB580_581 := aM ((by rw [hg]; exact Nat.ne_of_lt (blk_lt (by have X_ := BK580.out; exact TX)) : gb580 ≠ gb581)); have NB581_580 := aM ((by rw [hg]; exact Nat.ne_of_gt (blk_lt (by have X_ := BK580.out; exact TX)) : gb581 ≠ gb580)); replace BK580 := aM (blk_below (by have X_ := BK580.out; exact TX) hb); replace HB := aM (below_step TB hb); clear hb hbox hg; have hnb22 := NB580_581.out; have hnc22 := NB581_580.out; obtain ⟨hcz23_0, hcz23_1, hcz23_2, hcz23_3⟩ := cz4 BK580.out; obtain ⟨hfz23_0, hfz23_1, hfz23_2, hfz23_3⟩ := fz4 BK580.out; obtain ⟨hcz24_0, hcz24_1⟩ := cz2 BK581.out; obtain ⟨hfz24_0, hfz24_1⟩ := fz2 BK581.out) | (go_at_call 28; (with_reducible refine (spec_BuildOk.calls k a0_0 a0_1 a0_2 _ _ l0_3 a1_0 _ _ l1_1 false _ ?side1 ?side2 ?side3 ?side4 A8.out).mono ?_); (case side1 => have X_ := (Kd.C_below HR0_3.out HB.out); exact TC); (case side2 => exact HC0_3.out); (case side3 => have X_ := (Kd.C_below HR1_1.out HB.out); exact TC); (case side4 => exact HC1_1.out); rintro e w25 ⟨rfl, hb⟩; replace BK580 := aM (blk_below (by have X_ := BK580.out; exact TX) hb); replace BK581 := aM (blk_below (by have X_ := BK581.out; exact TX) hb); replace HB := aM (below_step TB hb); clear hb))
      go_ret
      exact ⟨by first | rfl | (simp [errW_none, errW_some] <;> rfl) | (simp [*, errW_none, errW_some] <;> rfl), TB⟩

/-! ### impl_Whole: function 31 -/
def impl_Whole.f (k : Nat) (a0_0 : Int) (a0_1 : Int) (a0_2 : Int) (l0_3 : List (S72)) (a1_0 : Int) (l1_1 : List Int) : Option (Bool) := if a0_0 = 0 then (some false) else ((impl_BuildOk.f k a0_0 a0_1 a0_2 l0_3 a1_0 l1_1).bind fun t586 => (if t586 = true then ((impl_Missing.f a0_0 a0_1 a0_2 l0_3 a1_0 l1_1).bind fun t587 => (some (t587 == 0))) else (some false)))
theorem impl_Whole.mono : ∀ a0 a1 a2 a3 a4 a5 k, LeO (impl_Whole.f k a0 a1 a2 a3 a4 a5) (impl_Whole.f (k + 1) a0 a1 a2 a3 a4 a5) := by
  intro a0 a1 a2 a3 a4 a5 k
  have m0_ := @impl_BuildOk.mono
  unfold impl_Whole.f
  exact LM
set_option maxHeartbeats 40000000 in
set_option maxRecDepth 100000 in
theorem impl_Whole.calls (k : Nat) (a0_0 : Int) (a0_1 : Int) (a0_2 : Int) (A0_3 : Option Addr) (c0_3 : Nat) (l0_3 : List (S72)) (a1_0 : Int) (A1_1 : Option Addr) (c1_1 : Nat) (l1_1 : List Int) (r : Bool) (w : World) (hr0_3 : Kd.C k72 w A0_3 l0_3.length l0_3) (hc0_3 : l0_3.length ≤ c0_3) (hr1_1 : Kd.C (Kd.int .u8) w A1_1 l1_1.length l1_1) (hc1_1 : l1_1.length ≤ c1_1) (h : impl_Whole.f k a0_0 a0_1 a0_2 l0_3 a1_0 l1_1 = some r) :
    Calls Try.prog 31 #[.agg #[.int .i64 a0_0, .int .i64 a0_1, .int .i64 a0_2, .slice A0_3 l0_3.length c0_3], .agg #[.int .i64 a1_0, .slice A1_1 l1_1.length c1_1]] w fun e w' => e = .returned (.bool r) ∧ Below w.heap.size w w' := by
  have hu33 := Try.underlying33
  have hu35 := Try.underlying35
  have HR0_3 := aM hr0_3
  have HC0_3 := aM hc0_3
  clear hr0_3 hc0_3
  have HR1_1 := aM hr1_1
  have HC1_1 := aM hc1_1
  clear hr1_1 hc1_1
  have HB := aM (Below.refl w.heap.size w)
  have H := h
  clear h
  unfold impl_Whole.f at H
  by_cases c3 : a0_0 = 0
  · rw [if_pos c3] at H
    have c3b0 : (a0_0 == 0) = true := beq_iff_eq.mpr c3
    have c3b1 : (a0_0 != 0) = false := bne_eq_false_iff_eq.mpr c3
    clear c3
    obtain rfl := Option.some.inj H
    go_enter Try.func31, Try.ntmps31
    go_wp2_with (first | ((with_reducible refine gate_dst (N := 2) rfl ?_); refine gBx 2 #[.int .i64 a0_0, .int .i64 a0_1, .int .i64 a0_2, .slice A0_3 l0_3.length c0_3] 33 ?_; intro gb584 hg w4 hbox hb; have BK584 := aM (hbox); have GW584 := aM ((by rw [hg]; exact (below_size TB) : w.heap.size ≤ gb584)); have GE584 := aM ((by rw [hg]; exact (below_size TB) : w.heap.size ≤ gb584)); replace HB := aM (below_step TB hb); clear hb hbox hg) | ((with_reducible refine gate_dst (N := 3) rfl ?_); refine gBx 3 #[.int .i64 a1_0, .slice A1_1 l1_1.length c1_1] 35 ?_; intro gb585 hg w5 hbox hb; have BK585 := aM (hbox); have GW585 := aM ((by rw [hg]; exact (below_size TB) : w.heap.size ≤ gb585)); have GE585 := aM ((by rw [hg]; exact (below_size TB) : w.heap.size ≤ gb585)); have NB584_585 := aM ((by rw [hg]; exact Nat.ne_of_lt (blk_lt (by have X_ := BK584.out; exact TX)) : gb584 ≠ gb585)); have NB585_584 := aM ((by rw [hg]; exact Nat.ne_of_gt (blk_lt (by have X_ := BK584.out; exact TX)) : gb585 ≠ gb584)); replace BK584 := aM (blk_below (by have X_ := BK584.out; exact TX) hb); replace HB := aM (below_step TB hb); clear hb hbox hg; have hnb6 := NB584_585.out; have hnc6 := NB585_584.out; obtain ⟨hcz7_0, hcz7_1, hcz7_2, hcz7_3⟩ := cz4 BK584.out; obtain ⟨hfz7_0, hfz7_1, hfz7_2, hfz7_3⟩ := fz4 BK584.out))
    go_ret
    exact ⟨by first | rfl | (simp [errW_none, errW_some] <;> rfl) | (simp [*, errW_none, errW_some] <;> rfl), TB⟩
  · rw [if_neg c3] at H
    have c3b0 : (a0_0 == 0) = false := beq_eq_false_iff_ne.mpr c3
    have c3b1 : (a0_0 != 0) = true := bne_iff_ne.mpr c3
    replace H := bE H
    obtain ⟨t586, A8, H⟩ := H
    by_cases c9 : t586 = true
    · subst c9
      replace H := ifT H
      replace H := bE H
      obtain ⟨t587, A10, H⟩ := H
      obtain rfl := Option.some.inj H
      go_enter Try.func31, Try.ntmps31
      go_wp2_with (first | ((with_reducible refine gate_dst (N := 2) rfl ?_); refine gBx 2 #[.int .i64 a0_0, .int .i64 a0_1, .int .i64 a0_2, .slice A0_3 l0_3.length c0_3] 33 ?_; intro gb584 hg w11 hbox hb; have BK584 := aM (hbox); have GW584 := aM ((by rw [hg]; exact (below_size TB) : w.heap.size ≤ gb584)); have GE584 := aM ((by rw [hg]; exact (below_size TB) : w.heap.size ≤ gb584)); replace HB := aM (below_step TB hb); clear hb hbox hg) | ((with_reducible refine gate_dst (N := 3) rfl ?_); refine gBx 3 #[.int .i64 a1_0, .slice A1_1 l1_1.length c1_1] 35 ?_; intro gb585 hg w12 hbox hb; have BK585 := aM (hbox); have GW585 := aM ((by rw [hg]; exact (below_size TB) : w.heap.size ≤ gb585)); have GE585 := aM ((by rw [hg]; exact (below_size TB) : w.heap.size ≤ gb585)); have NB584_585 := aM ((by rw [hg]; exact Nat.ne_of_lt (blk_lt (by have X_ := BK584.out; exact TX)) : gb584 ≠ gb585)); have NB585_584 := aM ((by rw [hg]; exact Nat.ne_of_gt (blk_lt (by have X_ := BK584.out; exact TX)) : gb585 ≠ gb584)); replace BK584 := aM (blk_below (by have X_ := BK584.out; exact TX) hb); replace HB := aM (below_step TB hb); clear hb hbox hg; have hnb13 := NB584_585.out; have hnc13 := NB585_584.out; obtain ⟨hcz14_0, hcz14_1, hcz14_2, hcz14_3⟩ := cz4 BK584.out; obtain ⟨hfz14_0, hfz14_1, hfz14_2, hfz14_3⟩ := fz4 BK584.out; obtain ⟨hcz15_0, hcz15_1⟩ := cz2 BK585.out; obtain ⟨hfz15_0, hfz15_1⟩ := fz2 BK585.out) | (go_at_call 29; (with_reducible refine (impl_BuildOk.calls k a0_0 a0_1 a0_2 _ _ l0_3 a1_0 _ _ l1_1 true _ ?side1 ?side2 ?side3 ?side4 A8.out).mono ?_); (case side1 => have X_ := (Kd.C_below HR0_3.out HB.out); exact TC); (case side2 => exact HC0_3.out); (case side3 => have X_ := (Kd.C_below HR1_1.out HB.out); exact TC); (case side4 => exact HC1_1.out); rintro e w16 ⟨rfl, hb⟩; replace BK584 := aM (blk_below (by have X_ := BK584.out; exact TX) hb); replace BK585 := aM (blk_below (by have X_ := BK585.out; exact TX) hb); replace HB := aM (below_step TB hb); clear hb; obtain ⟨hcz17_0, hcz17_1, hcz17_2, hcz17_3⟩ := cz4 BK584.out; obtain ⟨hfz17_0, hfz17_1, hfz17_2, hfz17_3⟩ := fz4 BK584.out; obtain ⟨hcz18_0, hcz18_1⟩ := cz2 BK585.out; obtain ⟨hfz18_0, hfz18_1⟩ := fz2 BK585.out) | (go_at_call 16; (with_reducible refine (impl_Missing.calls a0_0 a0_1 a0_2 _ _ l0_3 a1_0 _ _ l1_1 t587 _ ?side1 ?side2 ?side3 ?side4 A10.out).mono ?_); (case side1 => have X_ := (Kd.C_below HR0_3.out HB.out); exact TC); (case side2 => exact HC0_3.out); (case side3 => have X_ := (Kd.C_below HR1_1.out HB.out); exact TC); (case side4 => exact HC1_1.out); rintro e w19 ⟨rfl, hb⟩; replace BK584 := aM (blk_below (by have X_ := BK584.out; exact TX) hb); replace BK585 := aM (blk_below (by have X_ := BK585.out; exact TX) hb); replace HB := aM (below_step TB hb); clear hb))
      go_ret
      exact ⟨by first | rfl | (simp [errW_none, errW_some] <;> rfl) | (simp [*, errW_none, errW_some] <;> rfl), TB⟩
    · replace c9 := Bool.eq_false_iff.mpr c9
      subst c9
      replace H := ifF H
      obtain rfl := Option.some.inj H
      go_enter Try.func31, Try.ntmps31
      go_wp2_with (first | ((with_reducible refine gate_dst (N := 2) rfl ?_); refine gBx 2 #[.int .i64 a0_0, .int .i64 a0_1, .int .i64 a0_2, .slice A0_3 l0_3.length c0_3] 33 ?_; intro gb584 hg w20 hbox hb; have BK584 := aM (hbox); have GW584 := aM ((by rw [hg]; exact (below_size TB) : w.heap.size ≤ gb584)); have GE584 := aM ((by rw [hg]; exact (below_size TB) : w.heap.size ≤ gb584)); replace HB := aM (below_step TB hb); clear hb hbox hg) | ((with_reducible refine gate_dst (N := 3) rfl ?_); refine gBx 3 #[.int .i64 a1_0, .slice A1_1 l1_1.length c1_1] 35 ?_; intro gb585 hg w21 hbox hb; have BK585 := aM (hbox); have GW585 := aM ((by rw [hg]; exact (below_size TB) : w.heap.size ≤ gb585)); have GE585 := aM ((by rw [hg]; exact (below_size TB) : w.heap.size ≤ gb585)); have NB584_585 := aM ((by rw [hg]; exact Nat.ne_of_lt (blk_lt (by have X_ := BK584.out; exact TX)) : gb584 ≠ gb585)); have NB585_584 := aM ((by rw [hg]; exact Nat.ne_of_gt (blk_lt (by have X_ := BK584.out; exact TX)) : gb585 ≠ gb584)); replace BK584 := aM (blk_below (by have X_ := BK584.out; exact TX) hb); replace HB := aM (below_step TB hb); clear hb hbox hg; have hnb22 := NB584_585.out; have hnc22 := NB585_584.out; obtain ⟨hcz23_0, hcz23_1, hcz23_2, hcz23_3⟩ := cz4 BK584.out; obtain ⟨hfz23_0, hfz23_1, hfz23_2, hfz23_3⟩ := fz4 BK584.out; obtain ⟨hcz24_0, hcz24_1⟩ := cz2 BK585.out; obtain ⟨hfz24_0, hfz24_1⟩ := fz2 BK585.out) | (go_at_call 29; (with_reducible refine (impl_BuildOk.calls k a0_0 a0_1 a0_2 _ _ l0_3 a1_0 _ _ l1_1 false _ ?side1 ?side2 ?side3 ?side4 A8.out).mono ?_); (case side1 => have X_ := (Kd.C_below HR0_3.out HB.out); exact TC); (case side2 => exact HC0_3.out); (case side3 => have X_ := (Kd.C_below HR1_1.out HB.out); exact TC); (case side4 => exact HC1_1.out); rintro e w25 ⟨rfl, hb⟩; replace BK584 := aM (blk_below (by have X_ := BK584.out; exact TX) hb); replace BK585 := aM (blk_below (by have X_ := BK585.out; exact TX) hb); replace HB := aM (below_step TB hb); clear hb))
      go_ret
      exact ⟨by first | rfl | (simp [errW_none, errW_some] <;> rfl) | (simp [*, errW_none, errW_some] <;> rfl), TB⟩

end Go.Proofs.Ytnoplippaiblcaa.Q
