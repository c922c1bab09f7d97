/- Functions of the program as plain Lean functions, and that a call of each comes to what its function tells. Written by a program of this seat. -/
import Derived.Test.YtogilihkphjjbaaQ0
import Derived.Test.YtogilihkphjjbaaQ1
import Derived.Test.YtogilihkphjjbaaQ9
import Derived.Test.YtogilihkphjjbaaQ14
namespace Go.Proofs.Ytogilihkphjjbaa.Q
open Go.RowKit Go.Proofs.YtogilihkphjjbaaW.PrintWords Go.Proofs.YtogilihkphjjbaaW.PrintLast Go.Proofs.YtogilihkphjjbaaW.PrintMore
attribute [local go_sem] max2_int min2_int max_two min_two max_three min_three max_four min_four   -- for this text's walks alone
set_option linter.unusedVariables false
set_option linter.unusedSimpArgs false

attribute [local go_sem high] eqA30
/-! ### impl_isPut: function 73 -/
def impl_isPut.f (a0_0 : Int) (a0_1 : Int) (l0_2 : List Int) (a0_3 : Int) (a0_4 : Int) (a0_5 : Int) : Option (Bool) := if a0_0 = 2 then (if a0_1 = 0 then (if (l0_2.length : Int) = 0 then ((impl_isRecord.f a0_3 a0_4 a0_5).bind fun t320 => (some t320)) else (some false)) else (some false)) else ((impl_isSlot.f a0_0).bind fun t321 => (if t321 = true then (if (a0_3 == 0 && (a0_4 == 0 && (a0_5 == 0))) = true then ((impl_within.f a0_1 0 (wrap64 (240 - (l0_2.length : Int)))).bind fun t322 => (some t322)) else (some false)) else (some false)))
set_option maxHeartbeats 40000000 in
set_option maxRecDepth 100000 in
theorem impl_isPut.calls (a0_0 : Int) (a0_1 : Int) (A0_2 : Option Addr) (c0_2 : Nat) (l0_2 : List Int) (a0_3 : Int) (a0_4 : Int) (a0_5 : Int) (r : Bool) (w : World) (hr0_2 : Kd.C (Kd.int .u8) w A0_2 l0_2.length l0_2) (hc0_2 : l0_2.length ≤ c0_2) (h : impl_isPut.f a0_0 a0_1 l0_2 a0_3 a0_4 a0_5 = some r) :
    Calls Try.prog 73 #[.agg #[.int .i64 a0_0, .int .i64 a0_1, .slice A0_2 l0_2.length c0_2, .int .i64 a0_3, .int .i64 a0_4, .int .i64 a0_5]] w fun e w' => e = .returned (.bool r) ∧ Below w.heap.size w w' := by
  have hu55 := Try.underlying55
  have hu30 := Try.underlying30
  have HR0_2 := aM hr0_2
  have HC0_2 := aM hc0_2
  clear hr0_2 hc0_2
  have HB := aM (Below.refl w.heap.size w)
  have H := h
  clear h
  unfold impl_isPut.f at H
  by_cases c2 : a0_0 = 2
  · rw [if_pos c2] at H
    have c2b0 : (a0_0 == 2) = true := beq_iff_eq.mpr c2
    have c2b1 : (a0_0 != 2) = false := bne_eq_false_iff_eq.mpr c2
    clear c2
    by_cases c3 : a0_1 = 0
    · rw [if_pos c3] at H
      have c3b0 : (a0_1 == 0) = true := beq_iff_eq.mpr c3
      have c3b1 : (a0_1 != 0) = false := bne_eq_false_iff_eq.mpr c3
      clear c3
      by_cases c4 : (l0_2.length : Int) = 0
      · rw [if_pos c4] at H
        have c4b0 : ((l0_2.length : Int) == 0) = true := beq_iff_eq.mpr c4
        have c4b1 : ((l0_2.length : Int) != 0) = false := bne_eq_false_iff_eq.mpr c4
        clear c4
        replace H := bE H
        obtain ⟨t320, A5, H⟩ := H
        obtain rfl := Option.some.inj H
        go_enter Try.func73, Try.ntmps73
        go_wp2_with (first | ((with_reducible refine gate_dst (N := 1) rfl ?_); (try (refine gate_guard (by rfl) ?_; dsimp only)); refine gBx 1 #[.int .i64 a0_0, .int .i64 a0_1, .slice A0_2 l0_2.length c0_2, .int .i64 a0_3, .int .i64 a0_4, .int .i64 a0_5] 55 ?_; intro gb319 hg w6 hbox hb; have BK319 := aM (hbox); have GW319 := aM ((by rw [hg]; exact (below_size TB) : w.heap.size ≤ gb319)); have GE319 := aM ((by rw [hg]; exact (below_size TB) : w.heap.size ≤ gb319)); replace HB := aM (below_step TB hb); clear hb hbox hg; obtain ⟨hcz7_0, hcz7_1, hcz7_2, hcz7_3, hcz7_4, hcz7_5⟩ := cz6 BK319.out; obtain ⟨hfz7_0, hfz7_1, hfz7_2, hfz7_3, hfz7_4, hfz7_5⟩ := fz6 BK319.out) | (go_at_call 69; (with_reducible refine (impl_isRecord.calls a0_3 a0_4 a0_5 t320 _ A5.out).mono ?_); rintro e w8 ⟨rfl, hb⟩; replace BK319 := aM (blk_below (by have X_ := BK319.out; exact TX) hb); replace HB := aM (below_step TB hb); clear hb))
        go_ret
        exact ⟨by first | rfl | (simp [errW_none, errW_some] <;> rfl) | (simp [*, errW_none, errW_some] <;> rfl), TB⟩
      · rw [if_neg c4] at H
        have c4b0 : ((l0_2.length : Int) == 0) = false := beq_eq_false_iff_ne.mpr c4
        have c4b1 : ((l0_2.length : Int) != 0) = true := bne_iff_ne.mpr c4
        have c4b2 : ¬ (l0_2 = []) := fun h_ => c4 (by rw [h_]; rfl)
        obtain rfl := Option.some.inj H
        go_enter Try.func73, Try.ntmps73
        go_wp2_with (first | ((with_reducible refine gate_dst (N := 1) rfl ?_); (try (refine gate_guard (by rfl) ?_; dsimp only)); refine gBx 1 #[.int .i64 a0_0, .int .i64 a0_1, .slice A0_2 l0_2.length c0_2, .int .i64 a0_3, .int .i64 a0_4, .int .i64 a0_5] 55 ?_; intro gb319 hg w9 hbox hb; have BK319 := aM (hbox); have GW319 := aM ((by rw [hg]; exact (below_size TB) : w.heap.size ≤ gb319)); have GE319 := aM ((by rw [hg]; exact (below_size TB) : w.heap.size ≤ gb319)); replace HB := aM (below_step TB hb); clear hb hbox hg; obtain ⟨hcz10_0, hcz10_1, hcz10_2, hcz10_3, hcz10_4, hcz10_5⟩ := cz6 BK319.out; obtain ⟨hfz10_0, hfz10_1, hfz10_2, hfz10_3, hfz10_4, hfz10_5⟩ := fz6 BK319.out))
        go_ret
        exact ⟨by first | rfl | (simp [errW_none, errW_some] <;> rfl) | (simp [*, errW_none, errW_some] <;> rfl), TB⟩
    · rw [if_neg c3] at H
      have c3b0 : (a0_1 == 0) = false := beq_eq_false_iff_ne.mpr c3
      have c3b1 : (a0_1 != 0) = true := bne_iff_ne.mpr c3
      obtain rfl := Option.some.inj H
      go_enter Try.func73, Try.ntmps73
      go_wp2_with (first | ((with_reducible refine gate_dst (N := 1) rfl ?_); (try (refine gate_guard (by rfl) ?_; dsimp only)); refine gBx 1 #[.int .i64 a0_0, .int .i64 a0_1, .slice A0_2 l0_2.length c0_2, .int .i64 a0_3, .int .i64 a0_4, .int .i64 a0_5] 55 ?_; intro gb319 hg w11 hbox hb; have BK319 := aM (hbox); have GW319 := aM ((by rw [hg]; exact (below_size TB) : w.heap.size ≤ gb319)); have GE319 := aM ((by rw [hg]; exact (below_size TB) : w.heap.size ≤ gb319)); replace HB := aM (below_step TB hb); clear hb hbox hg; obtain ⟨hcz12_0, hcz12_1, hcz12_2, hcz12_3, hcz12_4, hcz12_5⟩ := cz6 BK319.out; obtain ⟨hfz12_0, hfz12_1, hfz12_2, hfz12_3, hfz12_4, hfz12_5⟩ := fz6 BK319.out))
      go_ret
      exact ⟨by first | rfl | (simp [errW_none, errW_some] <;> rfl) | (simp [*, errW_none, errW_some] <;> rfl), TB⟩
  · rw [if_neg c2] at H
    have c2b0 : (a0_0 == 2) = false := beq_eq_false_iff_ne.mpr c2
    have c2b1 : (a0_0 != 2) = true := bne_iff_ne.mpr c2
    replace H := bE H
    obtain ⟨t321, A13, H⟩ := H
    go_enter Try.func73, Try.ntmps73
    go_wp2_with (first | ((with_reducible refine gate_dst (N := 1) rfl ?_); (try (refine gate_guard (by rfl) ?_; dsimp only)); refine gBx 1 #[.int .i64 a0_0, .int .i64 a0_1, .slice A0_2 l0_2.length c0_2, .int .i64 a0_3, .int .i64 a0_4, .int .i64 a0_5] 55 ?_; intro gb319 hg w15 hbox hb; have BK319 := aM (hbox); have GW319 := aM ((by rw [hg]; exact (below_size TB) : w.heap.size ≤ gb319)); have GE319 := aM ((by rw [hg]; exact (below_size TB) : w.heap.size ≤ gb319)); replace HB := aM (below_step TB hb); clear hb hbox hg; obtain ⟨hcz16_0, hcz16_1, hcz16_2, hcz16_3, hcz16_4, hcz16_5⟩ := cz6 BK319.out; obtain ⟨hfz16_0, hfz16_1, hfz16_2, hfz16_3, hfz16_4, hfz16_5⟩ := fz6 BK319.out) | ((with_reducible refine gate_callee (f := 82) rfl ?_); (with_reducible refine gate_dst (N := 22) rfl ?_); generalize hG_ : wpList _ _ _ _ _ _ = G_))
    subst hG_
    by_cases c17 : t321 = true
    · subst c17
      replace H := ifT H
      by_cases c18 : (a0_3 == 0 && (a0_4 == 0 && (a0_5 == 0))) = true
      · rw [if_pos c18] at H
        have c18b0 : (a0_3 == 0 && (a0_4 == 0 && (a0_5 == 0))) = true := c18
        (try (have c18b1 : decide (a0_3 = 0 && (a0_4 == 0 && (a0_5 == 0))) = true := by simpa using c18))
        (try (have c18b2 : (a0_3 == 0 && (a0_4 == 0 && (a0_5 == 0))) = true := by simpa using c18))
        clear c18
        replace H := bE H
        obtain ⟨t322, A19, H⟩ := H
        obtain rfl := Option.some.inj H
        go_wp2_with (first | ((with_reducible refine gate_callee (f := 82) rfl ?_); refine gL (some 22) Try.func82 #[.int .i64 a0_0] ?_; (with_reducible refine (impl_isSlot.calls a0_0 true _ A13.out).mono ?_); rintro e w' ⟨rfl, ⟨nd, rfl⟩⟩; refine ⟨_, rfl, ?_⟩; obtain ⟨hcz20_0, hcz20_1, hcz20_2, hcz20_3, hcz20_4, hcz20_5⟩ := cz6 BK319.out; obtain ⟨hfz20_0, hfz20_1, hfz20_2, hfz20_3, hfz20_4, hfz20_5⟩ := fz6 BK319.out) | (go_at_call 89; (with_reducible refine (impl_within.calls a0_1 0 (wrap64 (240 - (l0_2.length : Int))) t322 _ A19.out).mono ?_); rintro e w' ⟨rfl, ⟨nd, rfl⟩⟩))
        go_ret
        exact ⟨by first | rfl | (simp [errW_none, errW_some] <;> rfl) | (simp [*, errW_none, errW_some] <;> rfl), TB⟩
      · rw [if_neg c18] at H
        have c18b0 : (a0_3 == 0 && (a0_4 == 0 && (a0_5 == 0))) = false := by simpa using c18
        (try (have c18b1 : decide (a0_3 = 0 && (a0_4 == 0 && (a0_5 == 0))) = false := by simpa using c18))
        (try (have c18b2 : (a0_3 == 0 && (a0_4 == 0 && (a0_5 == 0))) = false := by simpa using c18))
        (try (have c18b3 : ¬ (a0_3 = 0 && (a0_4 == 0 && (a0_5 == 0))) := by simpa using c18))
        clear c18
        obtain rfl := Option.some.inj H
        go_wp2_with (first | ((with_reducible refine gate_callee (f := 82) rfl ?_); refine gL (some 22) Try.func82 #[.int .i64 a0_0] ?_; (with_reducible refine (impl_isSlot.calls a0_0 true _ A13.out).mono ?_); rintro e w' ⟨rfl, ⟨nd, rfl⟩⟩; refine ⟨_, rfl, ?_⟩; obtain ⟨hcz21_0, hcz21_1, hcz21_2, hcz21_3, hcz21_4, hcz21_5⟩ := cz6 BK319.out; obtain ⟨hfz21_0, hfz21_1, hfz21_2, hfz21_3, hfz21_4, hfz21_5⟩ := fz6 BK319.out))
        go_ret
        exact ⟨by first | rfl | (simp [errW_none, errW_some] <;> rfl) | (simp [*, errW_none, errW_some] <;> rfl), TB⟩
    · replace c17 := Bool.eq_false_iff.mpr c17
      subst c17
      replace H := ifF H
      obtain rfl := Option.some.inj H
      go_wp2_with (first | ((with_reducible refine gate_callee (f := 82) rfl ?_); refine gL (some 22) Try.func82 #[.int .i64 a0_0] ?_; (with_reducible refine (impl_isSlot.calls a0_0 false _ A13.out).mono ?_); rintro e w' ⟨rfl, ⟨nd, rfl⟩⟩; refine ⟨_, rfl, ?_⟩))
      go_ret
      exact ⟨by first | rfl | (simp [errW_none, errW_some] <;> rfl) | (simp [*, errW_none, errW_some] <;> rfl), TB⟩

end Go.Proofs.Ytogilihkphjjbaa.Q
