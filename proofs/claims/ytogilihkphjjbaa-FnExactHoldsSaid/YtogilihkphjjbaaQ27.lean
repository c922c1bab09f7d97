/- Functions of the program as plain Lean functions, and that a call of each comes to what its function tells. Written by a program of this seat. -/
import Derived.Test.YtogilihkphjjbaaQ0
import Derived.Test.YtogilihkphjjbaaQ2
import Derived.Test.YtogilihkphjjbaaQ4
import Derived.Test.YtogilihkphjjbaaQ6
import Derived.Test.YtogilihkphjjbaaQ7
import Derived.Test.YtogilihkphjjbaaQ24
import Derived.Test.YtogilihkphjjbaaQ26
namespace Go.Proofs.Ytogilihkphjjbaa.Q
open Go.RowKit Go.Proofs.YtogilihkphjjbaaW.PrintWords Go.Proofs.YtogilihkphjjbaaW.PrintLast Go.Proofs.YtogilihkphjjbaaW.PrintMore
attribute [local go_sem] max2_int min2_int max_two min_two max_three min_three max_four min_four   -- for this text's walks alone
set_option linter.unusedVariables false
set_option linter.unusedSimpArgs false

/-! ### laws_FnExactHolds: function 6 -/
def laws_FnExactHolds.f (k : Nat) (l0_0 : List Int) (l0_1 : List Int) (a0_2 : Int) (a0_3 : Int) (a0_4 : Int) (l0_5 : List (S51)) (a1 : Int) (l2 : List Int) : Option (Bool) := if (l2.length : Int) > 1048576 then (some true) else ((laws_szDisk.f k l0_0 l0_1 a0_2 a0_3 a0_4 l0_5 1048576).bind fun t399 => (if t399 < 0 then (some true) else ((laws_toDisk.f k l0_0 l0_1 a0_2 a0_3 a0_4 l0_5).bind fun bt400 => ((laws_toByteS.f k l2).bind fun t412 => ((spec_Holds.f k bt400.1 bt400.2.1 bt400.2.2.1 bt400.2.2.2.1 bt400.2.2.2.2.1 bt400.2.2.2.2.2 a1 t412).bind fun t415 => ((laws_toDisk.f k l0_0 l0_1 a0_2 a0_3 a0_4 l0_5).bind fun bt416 => ((laws_toByteS.f k l2).bind fun t429 => ((impl_Holds.f k bt416.1 bt416.2.1 bt416.2.2.1 bt416.2.2.2.1 bt416.2.2.2.2.1 bt416.2.2.2.2.2 a1 t429).bind fun t432 => (if (t432 != t415) = true then (none) else ((laws_toDisk.f k l0_0 l0_1 a0_2 a0_3 a0_4 l0_5).bind fun bt433 => ((laws_eqDisk.f k bt416.1 bt416.2.1 bt416.2.2.1 bt416.2.2.2.1 bt416.2.2.2.2.1 bt416.2.2.2.2.2 bt433.1 bt433.2.1 bt433.2.2.1 bt433.2.2.2.1 bt433.2.2.2.2.1 bt433.2.2.2.2.2).bind fun t445 => (if t445 = true then ((laws_toByteS.f k l2).bind fun t446 => ((laws_eqByteS.f k t429 t446).bind fun t449 => (if t449 = true then (some true) else (none)))) else (none)))))))))))))
theorem laws_FnExactHolds.mono : ∀ a0 a1 a2 a3 a4 a5 a6 a7 k, LeO (laws_FnExactHolds.f k a0 a1 a2 a3 a4 a5 a6 a7) (laws_FnExactHolds.f (k + 1) a0 a1 a2 a3 a4 a5 a6 a7) := by
  intro a0 a1 a2 a3 a4 a5 a6 a7 k
  have m0_ := @impl_Holds.mono
  have m1_ := @laws_eqByteS.mono
  have m2_ := @laws_eqDisk.mono
  have m3_ := @laws_szDisk.mono
  have m4_ := @laws_toByteS.mono
  have m5_ := @laws_toDisk.mono
  have m6_ := @spec_Holds.mono
  unfold laws_FnExactHolds.f
  exact LM
set_option maxHeartbeats 40000000 in
set_option maxRecDepth 100000 in
theorem laws_FnExactHolds.calls (k : Nat) (A0_0 : Option Addr) (c0_0 : Nat) (l0_0 : List Int) (A0_1 : Option Addr) (c0_1 : Nat) (l0_1 : List Int) (a0_2 : Int) (a0_3 : Int) (a0_4 : Int) (A0_5 : Option Addr) (c0_5 : Nat) (l0_5 : List (S51)) (a1 : Int) (A2 : Option Addr) (c2 : Nat) (l2 : List Int) (r : Bool) (w : World) (hr0_0 : Kd.C (Kd.int .u8) w A0_0 l0_0.length l0_0) (hc0_0 : l0_0.length ≤ c0_0) (hr0_1 : Kd.C (Kd.int .u8) w A0_1 l0_1.length l0_1) (hc0_1 : l0_1.length ≤ c0_1) (hr0_5 : Kd.C k51 w A0_5 l0_5.length l0_5) (hc0_5 : l0_5.length ≤ c0_5) (hr2 : Kd.C (Kd.int .u8) w A2 l2.length l2) (hc2 : l2.length ≤ c2) (h : laws_FnExactHolds.f k l0_0 l0_1 a0_2 a0_3 a0_4 l0_5 a1 l2 = some r) :
    Calls Try.prog 6 #[.agg #[.slice A0_0 l0_0.length c0_0, .slice A0_1 l0_1.length c0_1, .int .i64 a0_2, .int .i64 a0_3, .int .i64 a0_4, .slice A0_5 l0_5.length c0_5], .int .i64 a1, .slice A2 l2.length c2] w fun e w' => e = .returned (.bool r) ∧ Below w.heap.size w w' := by
  have hu27 := Try.underlying27
  have hu33 := Try.underlying33
  have HR0_0 := aM hr0_0
  have HC0_0 := aM hc0_0
  clear hr0_0 hc0_0
  have HR0_1 := aM hr0_1
  have HC0_1 := aM hc0_1
  clear hr0_1 hc0_1
  have HR0_5 := aM hr0_5
  have HC0_5 := aM hc0_5
  clear hr0_5 hc0_5
  have HR2 := aM hr2
  have HC2 := aM hc2
  clear hr2 hc2
  have HB := aM (Below.refl w.heap.size w)
  have H := h
  clear h
  unfold laws_FnExactHolds.f at H
  by_cases c4 : (l2.length : Int) > 1048576
  · rw [if_pos c4] at H
    have c4b0 : decide (1048576 < (l2.length : Int)) = true := decide_eq_true c4
    have c4b1 : decide (1048576 < l2.length) = true := decide_eq_true (by omega)
    clear c4
    obtain rfl := Option.some.inj H
    go_enter Try.func6, Try.ntmps6
    go_wp2_with (first | ((with_reducible refine gate_dst (N := 3) rfl ?_); refine gBx 3 #[.slice A0_0 l0_0.length c0_0, .slice A0_1 l0_1.length c0_1, .int .i64 a0_2, .int .i64 a0_3, .int .i64 a0_4, .slice A0_5 l0_5.length c0_5] 27 ?_; intro gb398 hg w5 hbox hb; have BK398 := aM (hbox); have GW398 := aM ((by rw [hg]; exact (below_size TB) : w.heap.size ≤ gb398)); have GE398 := aM ((by rw [hg]; exact (below_size TB) : w.heap.size ≤ gb398)); replace HB := aM (below_step TB hb); clear hb hbox hg))
    go_ret
    exact ⟨by first | rfl | (simp [errW_none, errW_some] <;> rfl) | (simp [*, errW_none, errW_some] <;> rfl), TB⟩
  · rw [if_neg c4] at H
    have c4b0 : decide (1048576 < (l2.length : Int)) = false := decide_eq_false c4
    have c4b1 : decide (1048576 < l2.length) = false := decide_eq_false (by omega)
    clear c4
    replace H := bE H
    obtain ⟨t399, A6, H⟩ := H
    go_enter Try.func6, Try.ntmps6
    go_wp2_with (first | ((with_reducible refine gate_dst (N := 3) rfl ?_); refine gBx 3 #[.slice A0_0 l0_0.length c0_0, .slice A0_1 l0_1.length c0_1, .int .i64 a0_2, .int .i64 a0_3, .int .i64 a0_4, .slice A0_5 l0_5.length c0_5] 27 ?_; intro gb398 hg w7 hbox hb; have BK398 := aM (hbox); have GW398 := aM ((by rw [hg]; exact (below_size TB) : w.heap.size ≤ gb398)); have GE398 := aM ((by rw [hg]; exact (below_size TB) : w.heap.size ≤ gb398)); replace HB := aM (below_step TB hb); clear hb hbox hg; obtain ⟨hcz8_0, hcz8_1, hcz8_2, hcz8_3, hcz8_4, hcz8_5⟩ := cz6 BK398.out; obtain ⟨hfz8_0, hfz8_1, hfz8_2, hfz8_3, hfz8_4, hfz8_5⟩ := fz6 BK398.out) | ((with_reducible refine gate_callee (f := 15) rfl ?_); (with_reducible refine gate_dst (N := 17) rfl ?_); generalize hG_ : wpList _ _ _ _ _ _ = G_))
    subst hG_
    by_cases c9 : t399 < 0
    · rw [if_pos c9] at H
      have c9b0 : decide (t399 < 0) = true := decide_eq_true c9
      clear c9
      obtain rfl := Option.some.inj H
      go_wp2_with (first | ((with_reducible refine gate_callee (f := 15) rfl ?_); refine gL (some 17) Try.func15 #[.agg #[.slice A0_0 l0_0.length c0_0, .slice A0_1 l0_1.length c0_1, .int .i64 a0_2, .int .i64 a0_3, .int .i64 a0_4, .slice A0_5 l0_5.length c0_5], .int .i64 1048576] ?_; (with_reducible refine (laws_szDisk.calls k _ _ l0_0 _ _ l0_1 a0_2 a0_3 a0_4 _ _ l0_5 1048576 t399 _ ?side1 ?side2 ?side3 ?side4 ?side5 ?side6 A6.out).mono ?_); (case side1 => repeat (first | exact (Kd.C_below HR0_0.out TB) | (with_reducible refine Kd.C_alloc ?_ _) | (with_reducible refine Kd.C_drewN ?_ _) | (with_reducible refine Kd.C_drew ?_))); (case side2 => exact HC0_0.out); (case side3 => repeat (first | exact (Kd.C_below HR0_1.out TB) | (with_reducible refine Kd.C_alloc ?_ _) | (with_reducible refine Kd.C_drewN ?_ _) | (with_reducible refine Kd.C_drew ?_))); (case side4 => exact HC0_1.out); (case side5 => repeat (first | exact (Kd.C_below HR0_5.out TB) | (with_reducible refine Kd.C_alloc ?_ _) | (with_reducible refine Kd.C_drewN ?_ _) | (with_reducible refine Kd.C_drew ?_))); (case side6 => exact HC0_5.out); rintro e w10 ⟨rfl, hb⟩; refine ⟨_, rfl, ?_⟩; replace BK398 := aM (blk_below (by have X_ := BK398.out; exact TX) hb); replace HB := aM (below_step TB hb); clear hb))
      go_ret
      exact ⟨by first | rfl | (simp [errW_none, errW_some] <;> rfl) | (simp [*, errW_none, errW_some] <;> rfl), TB⟩
    · rw [if_neg c9] at H
      have c9b0 : decide (t399 < 0) = false := decide_eq_false c9
      clear c9
      replace H := bE H
      obtain ⟨⟨t400, t403, t406, t407, t408, t409⟩, A11, H⟩ := H
      dsimp only at H
      replace H := bE H
      obtain ⟨t412, A12, H⟩ := H
      replace H := bE H
      obtain ⟨t415, A13, H⟩ := H
      replace H := bE H
      obtain ⟨⟨t416, t419, t422, t423, t424, t425⟩, A14, H⟩ := H
      dsimp only at H
      replace H := bE H
      obtain ⟨t429, A15, H⟩ := H
      replace H := bE H
      obtain ⟨t432, A16, H⟩ := H
      replace H := ifM H
      obtain ⟨c17, H⟩ := H
      have c17b0 : (t432 != t415) = false := by simpa using c17
      (try (have c17b1 : decide (t432 = t415) = true := by simpa using c17))
      (try (have c17b2 : (t432 == t415) = true := by simpa using c17))
      clear c17
      replace H := bE H
      obtain ⟨⟨t433, t436, t439, t440, t441, t442⟩, A18, H⟩ := H
      dsimp only at H
      replace H := bE H
      obtain ⟨t445, A19, H⟩ := H
      replace H := ifN H
      obtain ⟨c20, H⟩ := H
      subst c20
      replace H := bE H
      obtain ⟨t446, A21, H⟩ := H
      replace H := bE H
      obtain ⟨t449, A22, H⟩ := H
      replace H := ifN H
      obtain ⟨c23, H⟩ := H
      subst c23
      obtain rfl := Option.some.inj H
      try go_wp2_with (first | ((with_reducible refine gate_callee (f := 15) rfl ?_); refine gL (some 17) Try.func15 #[.agg #[.slice A0_0 l0_0.length c0_0, .slice A0_1 l0_1.length c0_1, .int .i64 a0_2, .int .i64 a0_3, .int .i64 a0_4, .slice A0_5 l0_5.length c0_5], .int .i64 1048576] ?_; (with_reducible refine (laws_szDisk.calls k _ _ l0_0 _ _ l0_1 a0_2 a0_3 a0_4 _ _ l0_5 1048576 t399 _ ?side1 ?side2 ?side3 ?side4 ?side5 ?side6 A6.out).mono ?_); (case side1 => repeat (first | exact (Kd.C_below HR0_0.out TB) | (with_reducible refine Kd.C_alloc ?_ _) | (with_reducible refine Kd.C_drewN ?_ _) | (with_reducible refine Kd.C_drew ?_))); (case side2 => exact HC0_0.out); (case side3 => repeat (first | exact (Kd.C_below HR0_1.out TB) | (with_reducible refine Kd.C_alloc ?_ _) | (with_reducible refine Kd.C_drewN ?_ _) | (with_reducible refine Kd.C_drew ?_))); (case side4 => exact HC0_1.out); (case side5 => repeat (first | exact (Kd.C_below HR0_5.out TB) | (with_reducible refine Kd.C_alloc ?_ _) | (with_reducible refine Kd.C_drewN ?_ _) | (with_reducible refine Kd.C_drew ?_))); (case side6 => exact HC0_5.out); rintro e w24 ⟨rfl, hb⟩; refine ⟨_, rfl, ?_⟩; replace BK398 := aM (blk_below (by have X_ := BK398.out; exact TX) hb); replace HB := aM (below_step TB hb); clear hb; obtain ⟨hcz25_0, hcz25_1, hcz25_2, hcz25_3, hcz25_4, hcz25_5⟩ := cz6 BK398.out; obtain ⟨hfz25_0, hfz25_1, hfz25_2, hfz25_3, hfz25_4, hfz25_5⟩ := fz6 BK398.out) | ((with_reducible refine gate_callee (f := 17) rfl ?_); refine gL (some 21) Try.func17 #[.agg #[.slice A0_0 l0_0.length c0_0, .slice A0_1 l0_1.length c0_1, .int .i64 a0_2, .int .i64 a0_3, .int .i64 a0_4, .slice A0_5 l0_5.length c0_5]] ?_; (with_reducible refine (laws_toDisk.calls k _ _ l0_0 _ _ l0_1 a0_2 a0_3 a0_4 _ _ l0_5 t400 t403 t406 t407 t408 t409 _ ?side1 ?side2 ?side3 ?side4 ?side5 ?side6 A11.out).mono ?_); (case side1 => have X_ := (Kd.C_below HR0_0.out HB.out); exact TC); (case side2 => exact HC0_0.out); (case side3 => have X_ := (Kd.C_below HR0_1.out HB.out); exact TC); (case side4 => exact HC0_1.out); (case side5 => have X_ := (Kd.C_below HR0_5.out HB.out); exact TC); (case side6 => exact HC0_5.out); rintro e w26 ⟨v401, v404, v410, rfl, ho0, ho1, ho2, hb⟩; refine ⟨_, rfl, ?_⟩; have HO402 := aM (Kd.R_lower ho0 (below_size TB)); have HO405 := aM (Kd.R_lower ho1 (below_size TB)); have HO411 := aM (Kd.S_lower ho2 (below_size TB)); replace BK398 := aM (blk_below (by have X_ := BK398.out; exact TX) hb); replace HB := aM (below_step TB hb); clear ho0 ho1 ho2 hb) | ((with_reducible refine gate_callee (f := 21) rfl ?_); refine gL (some 24) Try.func21 #[.slice A2 l2.length c2] ?_; (with_reducible refine (laws_toByteS.calls k _ _ l2 t412 _ ?side1 ?side2 A12.out).mono ?_); (case side1 => have X_ := (Kd.C_below HR2.out HB.out); exact TC); (case side2 => exact HC2.out); rintro e w27 ⟨v413, rfl, ho0, hb⟩; refine ⟨_, rfl, ?_⟩; have HO414 := aM (Kd.R_lower (Kd.R_new' (Kd.R_new' ho0 (Kd.R_lt (by have X_ := HO402.out; exact TR))) (Kd.R_lt (by have X_ := HO405.out; exact TR))) (below_size TB)); replace HO402 := aM (Kd.R_elder' (by have X_ := HO402.out; exact TR) (Kd.R_base ho0) hb); replace HO405 := aM (Kd.R_elder' (by have X_ := HO405.out; exact TR) (Kd.R_base ho0) hb); replace HO411 := aM (Kd.S_elder' (by have X_ := HO411.out; exact TS) (Kd.R_base ho0) hb); replace BK398 := aM (blk_below (by have X_ := BK398.out; exact TX) hb); replace HB := aM (below_step TB hb); clear ho0 hb; obtain ⟨Ao28, co28, eo28⟩ := Kd.R_slice HO402.out; subst eo28; obtain ⟨Ao29, co29, eo29⟩ := Kd.R_slice HO405.out; subst eo29; obtain ⟨Ao30, co30, eo30⟩ := Kd.S_slice HO411.out; subst eo30; obtain ⟨Ao31, co31, eo31⟩ := Kd.R_slice HO414.out; subst eo31) | ((with_reducible refine gate_callee (f := 29) rfl ?_); refine gL (some 25) Try.func29 #[.agg #[.slice Ao28 t400.length co28, .slice Ao29 t403.length co29, .int .i64 t406, .int .i64 t407, .int .i64 t408, .slice Ao30 t409.length co30], .int .i64 a1, .slice Ao31 t412.length co31] ?_; (with_reducible refine (spec_Holds.calls k _ _ t400 _ _ t403 t406 t407 t408 _ _ t409 a1 _ _ t412 t415 _ ?side1 ?side2 ?side3 ?side4 ?side5 ?side6 ?side7 ?side8 A13.out).mono ?_); (case side1 => have X_ := (Kd.R_reads' HO402.out).2.2; exact TC); (case side2 => exact (Kd.R_reads' HO402.out).2.1); (case side3 => have X_ := (Kd.R_reads' HO405.out).2.2; exact TC); (case side4 => exact (Kd.R_reads' HO405.out).2.1); (case side5 => have X_ := (Kd.S_reads' HO411.out).2.2; exact TC); (case side6 => exact (Kd.S_reads' HO411.out).2.1); (case side7 => have X_ := (Kd.R_reads' HO414.out).2.2; exact TC); (case side8 => exact (Kd.R_reads' HO414.out).2.1); rintro e w32 ⟨rfl, hb⟩; refine ⟨_, rfl, ?_⟩; replace HO402 := aM (Kd.R_below (by have X_ := HO402.out; exact TR) hb); replace HO405 := aM (Kd.R_below (by have X_ := HO405.out; exact TR) hb); replace HO411 := aM (Kd.S_below (by have X_ := HO411.out; exact TS) hb); replace HO414 := aM (Kd.R_below (by have X_ := HO414.out; exact TR) hb); replace BK398 := aM (blk_below (by have X_ := BK398.out; exact TX) hb); replace HB := aM (below_step TB hb); clear hb; obtain ⟨hcz33_0, hcz33_1, hcz33_2, hcz33_3, hcz33_4, hcz33_5⟩ := cz6 BK398.out; obtain ⟨hfz33_0, hfz33_1, hfz33_2, hfz33_3, hfz33_4, hfz33_5⟩ := fz6 BK398.out) | ((with_reducible refine gate_callee (f := 17) rfl ?_); refine gL (some 27) Try.func17 #[.agg #[.slice A0_0 l0_0.length c0_0, .slice A0_1 l0_1.length c0_1, .int .i64 a0_2, .int .i64 a0_3, .int .i64 a0_4, .slice A0_5 l0_5.length c0_5]] ?_; (with_reducible refine (laws_toDisk.calls k _ _ l0_0 _ _ l0_1 a0_2 a0_3 a0_4 _ _ l0_5 t416 t419 t422 t423 t424 t425 _ ?side1 ?side2 ?side3 ?side4 ?side5 ?side6 A14.out).mono ?_); (case side1 => have X_ := (Kd.C_below HR0_0.out HB.out); exact TC); (case side2 => exact HC0_0.out); (case side3 => have X_ := (Kd.C_below HR0_1.out HB.out); exact TC); (case side4 => exact HC0_1.out); (case side5 => have X_ := (Kd.C_below HR0_5.out HB.out); exact TC); (case side6 => exact HC0_5.out); rintro e w34 ⟨v417, v420, v426, rfl, ho0, ho1, ho2, hb⟩; refine ⟨_, rfl, ?_⟩; have HO418 := aM (Kd.R_lower (Kd.R_new' (Kd.R_new' (Kd.R_new' ho0 (Kd.R_lt (by have X_ := HO402.out; exact TR))) (Kd.R_lt (by have X_ := HO405.out; exact TR))) (Kd.R_lt (by have X_ := HO414.out; exact TR))) (below_size TB)); have HO421 := aM (Kd.R_lower (Kd.R_new' (Kd.R_new' (Kd.R_new' ho1 (Kd.R_lt (by have X_ := HO402.out; exact TR))) (Kd.R_lt (by have X_ := HO405.out; exact TR))) (Kd.R_lt (by have X_ := HO414.out; exact TR))) (below_size TB)); have HO427 := aM (Kd.S_lower (Kd.S_new' (Kd.S_new' (Kd.S_new' (Kd.S_new' ho2 (Kd.R_lt (by have X_ := HO402.out; exact TR))) (Kd.R_lt (by have X_ := HO405.out; exact TR))) (Kd.S_lt (by have X_ := HO411.out; exact TS))) (Kd.R_lt (by have X_ := HO414.out; exact TR))) (below_size TB)); replace HO402 := aM (Kd.R_mono (Kd.R_told (Kd.R_told (Kd.R_old (by have X_ := HO402.out; exact TR) hb) (Kd.R_base ho0)) (Kd.R_base ho1)) (fun _ h_ => h_.1)); replace HO405 := aM (Kd.R_mono (Kd.R_told (Kd.R_told (Kd.R_old (by have X_ := HO405.out; exact TR) hb) (Kd.R_base ho0)) (Kd.R_base ho1)) (fun _ h_ => h_.1)); replace HO411 := aM (Kd.S_mono (Kd.S_told (Kd.S_told (Kd.S_told (Kd.S_old (by have X_ := HO411.out; exact TS) hb) (Kd.R_base ho0)) (Kd.R_base ho1)) (Kd.S_base ho2)) (fun _ h_ => h_.1)); replace HO414 := aM (Kd.R_mono (Kd.R_told (Kd.R_told (Kd.R_old (by have X_ := HO414.out; exact TR) hb) (Kd.R_base ho0)) (Kd.R_base ho1)) (fun _ h_ => h_.1)); replace BK398 := aM (blk_below (by have X_ := BK398.out; exact TX) hb); replace HB := aM (below_step TB hb); clear ho0 ho1 ho2 hb) | ((with_reducible refine gate_dst (N := 9) rfl ?_); refine gBx 9 #[.slice none 0 0, .slice none 0 0, .int .i64 0, .int .i64 0, .int .i64 0, .slice none 0 0] 33 ?_; intro gb428 hg w35 hbox hb; have BK428 := aM (hbox); have GW428 := aM ((by rw [hg]; exact (below_size TB) : w.heap.size ≤ gb428)); have GE428 := aM ((by rw [hg]; exact (below_size TB) : w.heap.size ≤ gb428)); have NB398_428 := aM ((by rw [hg]; exact Nat.ne_of_lt (blk_lt (by have X_ := BK398.out; exact TX)) : gb398 ≠ gb428)); have NB428_398 := aM ((by rw [hg]; exact Nat.ne_of_gt (blk_lt (by have X_ := BK398.out; exact TX)) : gb428 ≠ gb398)); replace HO402 := aM (Kd.R_below (by have X_ := HO402.out; exact TR) hb); replace HO405 := aM (Kd.R_below (by have X_ := HO405.out; exact TR) hb); replace HO411 := aM (Kd.S_below (by have X_ := HO411.out; exact TS) hb); replace HO414 := aM (Kd.R_below (by have X_ := HO414.out; exact TR) hb); replace HO418 := aM (Kd.R_below (by have X_ := HO418.out; exact TR) hb); replace HO421 := aM (Kd.R_below (by have X_ := HO421.out; exact TR) hb); replace HO427 := aM (Kd.S_below (by have X_ := HO427.out; exact TS) hb); replace BK398 := aM (blk_below (by have X_ := BK398.out; exact TX) hb); replace HB := aM (below_step TB hb); clear hb hbox hg; obtain ⟨Ao36, co36, eo36⟩ := Kd.R_slice HO418.out; subst eo36; have hnb37 := NB428_398.out; have hnc37 := NB398_428.out; obtain ⟨hcz38_0, hcz38_1, hcz38_2, hcz38_3, hcz38_4, hcz38_5⟩ := cz6 BK428.out; obtain ⟨hfz38_0, hfz38_1, hfz38_2, hfz38_3, hfz38_4, hfz38_5⟩ := fz6 BK428.out; obtain ⟨Ao39, co39, eo39⟩ := Kd.R_slice HO421.out; subst eo39; obtain ⟨Ao40, co40, eo40⟩ := Kd.S_slice HO427.out; subst eo40) | ((with_reducible refine gate_callee (f := 21) rfl ?_); refine gL (some 29) Try.func21 #[.slice A2 l2.length c2] ?_; (with_reducible refine (laws_toByteS.calls k _ _ l2 t429 _ ?side1 ?side2 A15.out).mono ?_); (case side1 => exact Kd.C_below HR2.out TB); (case side2 => exact HC2.out); rintro e w41 ⟨v430, rfl, ho0, hb⟩; refine ⟨_, rfl, ?_⟩; have HO431 := aM (Kd.R_lower (Kd.R_new' (Kd.R_new' (Kd.R_new' (Kd.R_new' (Kd.R_new' ho0 (Kd.R_lt (by (with_reducible repeat (first | apply Kd.R_alloc | apply Kd.R_drewN | apply Kd.R_drew)); exact (R_off (Kd.R_types HO402.out BK428.out (by decide)) TO)))) (Kd.R_lt (by (with_reducible repeat (first | apply Kd.R_alloc | apply Kd.R_drewN | apply Kd.R_drew)); exact (R_off (Kd.R_types HO405.out BK428.out (by decide)) TO)))) (Kd.R_lt (by (with_reducible repeat (first | apply Kd.R_alloc | apply Kd.R_drewN | apply Kd.R_drew)); exact (R_off (Kd.R_types HO414.out BK428.out (by decide)) TO)))) (Kd.R_lt (by (with_reducible repeat (first | apply Kd.R_alloc | apply Kd.R_drewN | apply Kd.R_drew)); exact (R_off (Kd.R_types HO418.out BK428.out (by decide)) TO)))) (Kd.R_lt (by (with_reducible repeat (first | apply Kd.R_alloc | apply Kd.R_drewN | apply Kd.R_drew)); exact (R_off (Kd.R_types HO421.out BK428.out (by decide)) TO)))) (below_size TB)); replace HO402 := aM (Kd.R_elder' (by (with_reducible repeat (first | apply Kd.R_alloc | apply Kd.R_drewN | apply Kd.R_drew)); exact (R_off (Kd.R_types HO402.out BK428.out (by decide)) TO)) (Kd.R_base ho0) hb); replace HO405 := aM (Kd.R_elder' (by (with_reducible repeat (first | apply Kd.R_alloc | apply Kd.R_drewN | apply Kd.R_drew)); exact (R_off (Kd.R_types HO405.out BK428.out (by decide)) TO)) (Kd.R_base ho0) hb); replace HO411 := aM (Kd.S_elder' (by (with_reducible repeat (first | apply Kd.S_alloc | apply Kd.S_drewN | apply Kd.S_drew)); exact (S_off (Kd.S_types HO411.out BK428.out (by decide)) TO)) (Kd.R_base ho0) hb); replace HO414 := aM (Kd.R_elder' (by (with_reducible repeat (first | apply Kd.R_alloc | apply Kd.R_drewN | apply Kd.R_drew)); exact (R_off (Kd.R_types HO414.out BK428.out (by decide)) TO)) (Kd.R_base ho0) hb); replace HO418 := aM (Kd.R_elder' (by (with_reducible repeat (first | apply Kd.R_alloc | apply Kd.R_drewN | apply Kd.R_drew)); exact (R_off (Kd.R_types HO418.out BK428.out (by decide)) TO)) (Kd.R_base ho0) hb); replace HO421 := aM (Kd.R_elder' (by (with_reducible repeat (first | apply Kd.R_alloc | apply Kd.R_drewN | apply Kd.R_drew)); exact (R_off (Kd.R_types HO421.out BK428.out (by decide)) TO)) (Kd.R_base ho0) hb); replace HO427 := aM (Kd.S_elder' (by (with_reducible repeat (first | apply Kd.S_alloc | apply Kd.S_drewN | apply Kd.S_drew)); exact (S_off (Kd.S_types HO427.out BK428.out (by decide)) TO)) (Kd.R_base ho0) hb); replace BK398 := aM (blk_below (g := gb398) (o := .cells #[.slice A0_0 l0_0.length c0_0, .slice A0_1 l0_1.length c0_1, .int .i64 a0_2, .int .i64 a0_3, .int .i64 a0_4, .slice A0_5 l0_5.length c0_5] 27 (0, 0)) (by (with_reducible repeat (first | refine blk_drewN ?_ _ | refine blk_drew ?_ | refine blk_alloc ?_ _)); refine blk_far ?_ NB398_428.out _; (with_reducible repeat (first | refine blk_drewN ?_ _ | refine blk_drew ?_ | refine blk_alloc ?_ _)); refine blk_far ?_ NB398_428.out _; (with_reducible repeat (first | refine blk_drewN ?_ _ | refine blk_drew ?_ | refine blk_alloc ?_ _)); refine blk_far ?_ NB398_428.out _; (with_reducible repeat (first | refine blk_drewN ?_ _ | refine blk_drew ?_ | refine blk_alloc ?_ _)); refine blk_far ?_ NB398_428.out _; (with_reducible repeat (first | refine blk_drewN ?_ _ | refine blk_drew ?_ | refine blk_alloc ?_ _)); refine blk_far ?_ NB398_428.out _; (with_reducible repeat (first | refine blk_drewN ?_ _ | refine blk_drew ?_ | refine blk_alloc ?_ _)); refine blk_far ?_ NB398_428.out _; (with_reducible repeat (first | refine blk_drewN ?_ _ | refine blk_drew ?_ | refine blk_alloc ?_ _)); exact BK398.out) hb); replace BK428 := aM (blk_below (g := gb428) (o := .cells #[.slice Ao36 t416.length co36, .slice Ao39 t419.length co39, .int .i64 t422, .int .i64 t423, .int .i64 t424, .slice Ao40 t425.length co40] 33 (0, 0)) (by (with_reducible repeat (first | refine blk_drewN ?_ _ | refine blk_drew ?_ | refine blk_alloc ?_ _)); refine blk_put (cs := #[.slice Ao36 t416.length co36, .slice Ao39 t419.length co39, .int .i64 t422, .int .i64 t423, .int .i64 t424, .slice none 0 0]) ?_ 5 _ rfl; (with_reducible repeat (first | refine blk_drewN ?_ _ | refine blk_drew ?_ | refine blk_alloc ?_ _)); refine blk_put (cs := #[.slice Ao36 t416.length co36, .slice Ao39 t419.length co39, .int .i64 t422, .int .i64 t423, .int .i64 0, .slice none 0 0]) ?_ 4 _ rfl; (with_reducible repeat (first | refine blk_drewN ?_ _ | refine blk_drew ?_ | refine blk_alloc ?_ _)); refine blk_put (cs := #[.slice Ao36 t416.length co36, .slice Ao39 t419.length co39, .int .i64 t422, .int .i64 0, .int .i64 0, .slice none 0 0]) ?_ 3 _ rfl; (with_reducible repeat (first | refine blk_drewN ?_ _ | refine blk_drew ?_ | refine blk_alloc ?_ _)); refine blk_put (cs := #[.slice Ao36 t416.length co36, .slice Ao39 t419.length co39, .int .i64 0, .int .i64 0, .int .i64 0, .slice none 0 0]) ?_ 2 _ rfl; (with_reducible repeat (first | refine blk_drewN ?_ _ | refine blk_drew ?_ | refine blk_alloc ?_ _)); refine blk_put (cs := #[.slice Ao36 t416.length co36, .slice none 0 0, .int .i64 0, .int .i64 0, .int .i64 0, .slice none 0 0]) ?_ 1 _ rfl; (with_reducible repeat (first | refine blk_drewN ?_ _ | refine blk_drew ?_ | refine blk_alloc ?_ _)); refine blk_put (cs := #[.slice none 0 0, .slice none 0 0, .int .i64 0, .int .i64 0, .int .i64 0, .slice none 0 0]) ?_ 0 _ rfl; (with_reducible repeat (first | refine blk_drewN ?_ _ | refine blk_drew ?_ | refine blk_alloc ?_ _)); exact BK428.out) hb); replace HB := aM (below_step TB hb); clear ho0 hb; obtain ⟨hcz42_0, hcz42_1, hcz42_2, hcz42_3, hcz42_4, hcz42_5⟩ := cz6 BK428.out; obtain ⟨hfz42_0, hfz42_1, hfz42_2, hfz42_3, hfz42_4, hfz42_5⟩ := fz6 BK428.out; obtain ⟨Ao43, co43, eo43⟩ := Kd.R_slice HO431.out; subst eo43) | ((with_reducible refine gate_callee (f := 30) rfl ?_); refine gL (some 33) Try.func30 #[.agg #[.slice Ao36 t416.length co36, .slice Ao39 t419.length co39, .int .i64 t422, .int .i64 t423, .int .i64 t424, .slice Ao40 t425.length co40], .int .i64 a1, .slice Ao43 t429.length co43] ?_; (with_reducible refine (impl_Holds.calls k _ _ t416 _ _ t419 t422 t423 t424 _ _ t425 a1 _ _ t429 t432 _ ?side1 ?side2 ?side3 ?side4 ?side5 ?side6 ?side7 ?side8 A16.out).mono ?_); (case side1 => have X_ := (Kd.R_reads' HO418.out).2.2; exact TC); (case side2 => exact (Kd.R_reads' HO418.out).2.1); (case side3 => have X_ := (Kd.R_reads' HO421.out).2.2; exact TC); (case side4 => exact (Kd.R_reads' HO421.out).2.1); (case side5 => have X_ := (Kd.S_reads' HO427.out).2.2; exact TC); (case side6 => exact (Kd.S_reads' HO427.out).2.1); (case side7 => have X_ := (Kd.R_reads' HO431.out).2.2; exact TC); (case side8 => exact (Kd.R_reads' HO431.out).2.1); rintro e w44 ⟨rfl, hb⟩; refine ⟨_, rfl, ?_⟩; replace HO402 := aM (Kd.R_below (by have X_ := HO402.out; exact TR) hb); replace HO405 := aM (Kd.R_below (by have X_ := HO405.out; exact TR) hb); replace HO411 := aM (Kd.S_below (by have X_ := HO411.out; exact TS) hb); replace HO414 := aM (Kd.R_below (by have X_ := HO414.out; exact TR) hb); replace HO418 := aM (Kd.R_below (by have X_ := HO418.out; exact TR) hb); replace HO421 := aM (Kd.R_below (by have X_ := HO421.out; exact TR) hb); replace HO427 := aM (Kd.S_below (by have X_ := HO427.out; exact TS) hb); replace HO431 := aM (Kd.R_below (by have X_ := HO431.out; exact TR) hb); replace BK398 := aM (blk_below (by have X_ := BK398.out; exact TX) hb); replace BK428 := aM (blk_below (by have X_ := BK428.out; exact TX) hb); replace HB := aM (below_step TB hb); clear hb))
      replace HO402 := aM (Kd.R_drew HO402.out)
      replace HO405 := aM (Kd.R_drew HO405.out)
      replace HO411 := aM (Kd.S_drew HO411.out)
      replace HO414 := aM (Kd.R_drew HO414.out)
      replace HO418 := aM (Kd.R_drew HO418.out)
      replace HO421 := aM (Kd.R_drew HO421.out)
      replace HO427 := aM (Kd.S_drew HO427.out)
      replace HO431 := aM (Kd.R_drew HO431.out)
      replace BK398 := aM (blk_drew BK398.out)
      replace BK428 := aM (blk_drew BK428.out)
      replace HB := aM (below_drew1 HB.out)
      refine start_ (n := 5) (S := fun w' => w'.cell? ⟨gb428, 0, none⟩ = some (.slice Ao36 t416.length co36) ∧ w'.cell? ⟨gb428, 1, none⟩ = some (.slice Ao39 t419.length co39) ∧ w'.cell? ⟨gb428, 2, none⟩ = some (.int .i64 t422) ∧ w'.cell? ⟨gb428, 3, none⟩ = some (.int .i64 t423) ∧ w'.cell? ⟨gb428, 4, none⟩ = some (.int .i64 t424) ∧ w'.cell? ⟨gb428, 5, none⟩ = some (.slice Ao40 t425.length co40) ∧ w'.cell? ⟨gb398, 0, none⟩ = some (.slice A0_0 l0_0.length c0_0) ∧ w'.cell? ⟨gb398, 1, none⟩ = some (.slice A0_1 l0_1.length c0_1) ∧ w'.cell? ⟨gb398, 2, none⟩ = some (.int .i64 a0_2) ∧ w'.cell? ⟨gb398, 3, none⟩ = some (.int .i64 a0_3) ∧ w'.cell? ⟨gb398, 4, none⟩ = some (.int .i64 a0_4) ∧ w'.cell? ⟨gb398, 5, none⟩ = some (.slice A0_5 l0_5.length c0_5)) (ds := []) (Array.replicate 5 false) (by kernel_rfl) rfl rfl ⟨(blk_cell BK428.out 0).trans rfl, (blk_cell BK428.out 1).trans rfl, (blk_cell BK428.out 2).trans rfl, (blk_cell BK428.out 3).trans rfl, (blk_cell BK428.out 4).trans rfl, (blk_cell BK428.out 5).trans rfl, (blk_cell BK398.out 0).trans rfl, (blk_cell BK398.out 1).trans rfl, (blk_cell BK398.out 2).trans rfl, (blk_cell BK398.out 3).trans rfl, (blk_cell BK398.out 4).trans rfl, (blk_cell BK398.out 5).trans rfl⟩ (fun hHeld => ?_)
      generalize w44.drew = w45 at HO402 HO405 HO411 HO414 HO418 HO421 HO427 HO431 BK398 BK428 HB hHeld ⊢
      refine pT 0 (some 37) ?_
      refine pT 1 (some 38) ?_
      refine pO 2 (some 39) (fun K hK => ?_)
      refine gG Try.func17 #[.agg #[.slice A0_0 l0_0.length c0_0, .slice A0_1 l0_1.length c0_1, .int .i64 a0_2, .int .i64 a0_3, .int .i64 a0_4, .slice A0_5 l0_5.length c0_5]] ?_
      with_reducible refine (laws_toDisk.calls k _ _ l0_0 _ _ l0_1 a0_2 a0_3 a0_4 _ _ l0_5 t433 t436 t439 t440 t441 t442 _ ?side1 ?side2 ?side3 ?side4 ?side5 ?side6 A18.out).mono ?_
      (case side1 => have X_ := (Kd.C_below HR0_0.out HB.out); exact TC)
      (case side2 => exact HC0_0.out)
      (case side3 => have X_ := (Kd.C_below HR0_1.out HB.out); exact TC)
      (case side4 => exact HC0_1.out)
      (case side5 => have X_ := (Kd.C_below HR0_5.out HB.out); exact TC)
      (case side6 => exact HC0_5.out)
      rintro e w46 ⟨v434, v437, v443, rfl, ho0, ho1, ho2, hb⟩
      refine ⟨_, rfl, ?_⟩
      have n0_ := aM (Kd.R_mono (Kd.R_told (Kd.R_told (Kd.R_old (by have X_ := HO402.out; exact TR) hb) (Kd.R_base ho0)) (Kd.R_base ho1)) (fun _ h_ => h_.1))
      have n1_ := aM (Kd.R_mono (Kd.R_told (Kd.R_told (Kd.R_old (by have X_ := HO405.out; exact TR) hb) (Kd.R_base ho0)) (Kd.R_base ho1)) (fun _ h_ => h_.1))
      have n2_ := aM (Kd.S_mono (Kd.S_told (Kd.S_told (Kd.S_told (Kd.S_old (by have X_ := HO411.out; exact TS) hb) (Kd.R_base ho0)) (Kd.R_base ho1)) (Kd.S_base ho2)) (fun _ h_ => h_.1))
      have n3_ := aM (Kd.R_mono (Kd.R_told (Kd.R_told (Kd.R_old (by have X_ := HO414.out; exact TR) hb) (Kd.R_base ho0)) (Kd.R_base ho1)) (fun _ h_ => h_.1))
      have n4_ := aM (Kd.R_mono (Kd.R_told (Kd.R_told (Kd.R_old (by have X_ := HO418.out; exact TR) hb) (Kd.R_base ho0)) (Kd.R_base ho1)) (fun _ h_ => h_.1))
      have n5_ := aM (Kd.R_mono (Kd.R_told (Kd.R_told (Kd.R_old (by have X_ := HO421.out; exact TR) hb) (Kd.R_base ho0)) (Kd.R_base ho1)) (fun _ h_ => h_.1))
      have n6_ := aM (Kd.S_mono (Kd.S_told (Kd.S_told (Kd.S_told (Kd.S_old (by have X_ := HO427.out; exact TS) hb) (Kd.R_base ho0)) (Kd.R_base ho1)) (Kd.S_base ho2)) (fun _ h_ => h_.1))
      have n7_ := aM (Kd.R_mono (Kd.R_told (Kd.R_told (Kd.R_old (by have X_ := HO431.out; exact TR) hb) (Kd.R_base ho0)) (Kd.R_base ho1)) (fun _ h_ => h_.1))
      have n8_ := aM (Kd.R_lower (Kd.R_new' (Kd.R_new' (Kd.R_new' (Kd.R_new' (Kd.R_new' (Kd.R_new' ho0 (Kd.R_lt (by have X_ := HO402.out; exact TR))) (Kd.R_lt (by have X_ := HO405.out; exact TR))) (Kd.R_lt (by have X_ := HO414.out; exact TR))) (Kd.R_lt (by have X_ := HO418.out; exact TR))) (Kd.R_lt (by have X_ := HO421.out; exact TR))) (Kd.R_lt (by have X_ := HO431.out; exact TR))) (below_size TB))
      have n9_ := aM (Kd.R_lower (Kd.R_new' (Kd.R_new' (Kd.R_new' (Kd.R_new' (Kd.R_new' (Kd.R_new' ho1 (Kd.R_lt (by have X_ := HO402.out; exact TR))) (Kd.R_lt (by have X_ := HO405.out; exact TR))) (Kd.R_lt (by have X_ := HO414.out; exact TR))) (Kd.R_lt (by have X_ := HO418.out; exact TR))) (Kd.R_lt (by have X_ := HO421.out; exact TR))) (Kd.R_lt (by have X_ := HO431.out; exact TR))) (below_size TB))
      have n10_ := aM (Kd.S_lower (Kd.S_new' (Kd.S_new' (Kd.S_new' (Kd.S_new' (Kd.S_new' (Kd.S_new' (Kd.S_new' (Kd.S_new' ho2 (Kd.R_lt (by have X_ := HO402.out; exact TR))) (Kd.R_lt (by have X_ := HO405.out; exact TR))) (Kd.S_lt (by have X_ := HO411.out; exact TS))) (Kd.R_lt (by have X_ := HO414.out; exact TR))) (Kd.R_lt (by have X_ := HO418.out; exact TR))) (Kd.R_lt (by have X_ := HO421.out; exact TR))) (Kd.S_lt (by have X_ := HO427.out; exact TS))) (Kd.R_lt (by have X_ := HO431.out; exact TR))) (below_size TB))
      have n11_ := aM (blk_below (by have X_ := BK398.out; exact TX) hb)
      have n12_ := aM (blk_below (by have X_ := BK428.out; exact TX) hb)
      have n13_ := aM (below_step TB hb)
      clear HO402
      clear HO405
      clear HO411
      clear HO414
      clear HO418
      clear HO421
      clear HO427
      clear HO431
      clear BK398
      clear BK428
      clear HB
      have HO402 := n0_
      have HO405 := n1_
      have HO411 := n2_
      have HO414 := n3_
      have HO418 := n4_
      have HO421 := n5_
      have HO427 := n6_
      have HO431 := n7_
      have HO435 := n8_
      have HO438 := n9_
      have HO444 := n10_
      have BK398 := n11_
      have BK428 := n12_
      have HB := n13_
      clear n0_ n1_ n2_ n3_ n4_ n5_ n6_ n7_ n8_ n9_ n10_ n11_ n12_ n13_
      (try clear hb)
      (try clear hb2)
      (try clear hk)
      (try clear hi)
      (try clear ho0)
      (try clear ho1)
      (try clear ho2)
      obtain ⟨Ao47, co47, eo47⟩ := Kd.R_slice HO435.out
      (first | subst eo47 | (injection eo47 with f1_ f2_ f3_; have f4_ := f1_.symm; have f5_ := f3_.symm; clear f1_ f2_ f3_; subst f4_; subst f5_))
      obtain ⟨Ao48, co48, eo48⟩ := Kd.R_slice HO438.out
      (first | subst eo48 | (injection eo48 with f1_ f2_ f3_; have f4_ := f1_.symm; have f5_ := f3_.symm; clear f1_ f2_ f3_; subst f4_; subst f5_))
      obtain ⟨Ao49, co49, eo49⟩ := Kd.S_slice HO444.out
      (first | subst eo49 | (injection eo49 with f1_ f2_ f3_; have f4_ := f1_.symm; have f5_ := f3_.symm; clear f1_ f2_ f3_; subst f4_; subst f5_))
      refine hK.out _ _ ⟨(blk_cell BK428.out 0).trans rfl, (blk_cell BK428.out 1).trans rfl, (blk_cell BK428.out 2).trans rfl, (blk_cell BK428.out 3).trans rfl, (blk_cell BK428.out 4).trans rfl, (blk_cell BK428.out 5).trans rfl, (blk_cell BK398.out 0).trans rfl, (blk_cell BK398.out 1).trans rfl, (blk_cell BK398.out 2).trans rfl, (blk_cell BK398.out 3).trans rfl, (blk_cell BK398.out 4).trans rfl, (blk_cell BK398.out 5).trans rfl⟩ (fun hHeld => ?_)
      clear hK K
      refine nR ?_
      refine pO 3 (some 40) (fun K hK => ?_)
      refine gG Try.func19 #[.agg #[.slice Ao36 t416.length co36, .slice Ao39 t419.length co39, .int .i64 t422, .int .i64 t423, .int .i64 t424, .slice Ao40 t425.length co40], .agg #[.slice Ao47 t433.length co47, .slice Ao48 t436.length co48, .int .i64 t439, .int .i64 t440, .int .i64 t441, .slice Ao49 t442.length co49]] ?_
      with_reducible refine (laws_eqDisk.calls k _ _ t416 _ _ t419 t422 t423 t424 _ _ t425 _ _ t433 _ _ t436 t439 t440 t441 _ _ t442 true _ ?side1 ?side2 ?side3 ?side4 ?side5 ?side6 ?side7 ?side8 ?side9 ?side10 ?side11 ?side12 A19.out).mono ?_
      (case side1 => have X_ := (Kd.R_reads' HO418.out).2.2; exact TC)
      (case side2 => exact (Kd.R_reads' HO418.out).2.1)
      (case side3 => have X_ := (Kd.R_reads' HO421.out).2.2; exact TC)
      (case side4 => exact (Kd.R_reads' HO421.out).2.1)
      (case side5 => have X_ := (Kd.S_reads' HO427.out).2.2; exact TC)
      (case side6 => exact (Kd.S_reads' HO427.out).2.1)
      (case side7 => have X_ := (Kd.R_reads' HO435.out).2.2; exact TC)
      (case side8 => exact (Kd.R_reads' HO435.out).2.1)
      (case side9 => have X_ := (Kd.R_reads' HO438.out).2.2; exact TC)
      (case side10 => exact (Kd.R_reads' HO438.out).2.1)
      (case side11 => have X_ := (Kd.S_reads' HO444.out).2.2; exact TC)
      (case side12 => exact (Kd.S_reads' HO444.out).2.1)
      rintro e w50 ⟨rfl, hb⟩
      refine ⟨_, rfl, ?_⟩
      have n0_ := aM (Kd.R_below (by have X_ := HO402.out; exact TR) hb)
      have n1_ := aM (Kd.R_below (by have X_ := HO405.out; exact TR) hb)
      have n2_ := aM (Kd.S_below (by have X_ := HO411.out; exact TS) hb)
      have n3_ := aM (Kd.R_below (by have X_ := HO414.out; exact TR) hb)
      have n4_ := aM (Kd.R_below (by have X_ := HO418.out; exact TR) hb)
      have n5_ := aM (Kd.R_below (by have X_ := HO421.out; exact TR) hb)
      have n6_ := aM (Kd.S_below (by have X_ := HO427.out; exact TS) hb)
      have n7_ := aM (Kd.R_below (by have X_ := HO431.out; exact TR) hb)
      have n8_ := aM (Kd.R_below (by have X_ := HO435.out; exact TR) hb)
      have n9_ := aM (Kd.R_below (by have X_ := HO438.out; exact TR) hb)
      have n10_ := aM (Kd.S_below (by have X_ := HO444.out; exact TS) hb)
      have n11_ := aM (blk_below (by have X_ := BK398.out; exact TX) hb)
      have n12_ := aM (blk_below (by have X_ := BK428.out; exact TX) hb)
      have n13_ := aM (below_step TB hb)
      clear HO402
      clear HO405
      clear HO411
      clear HO414
      clear HO418
      clear HO421
      clear HO427
      clear HO431
      clear HO435
      clear HO438
      clear HO444
      clear BK398
      clear BK428
      clear HB
      have HO402 := n0_
      have HO405 := n1_
      have HO411 := n2_
      have HO414 := n3_
      have HO418 := n4_
      have HO421 := n5_
      have HO427 := n6_
      have HO431 := n7_
      have HO435 := n8_
      have HO438 := n9_
      have HO444 := n10_
      have BK398 := n11_
      have BK428 := n12_
      have HB := n13_
      clear n0_ n1_ n2_ n3_ n4_ n5_ n6_ n7_ n8_ n9_ n10_ n11_ n12_ n13_
      (try clear hb)
      (try clear hb2)
      (try clear hk)
      (try clear hi)
      refine hK.out _ _ ⟨(blk_cell BK428.out 0).trans rfl, (blk_cell BK428.out 1).trans rfl, (blk_cell BK428.out 2).trans rfl, (blk_cell BK428.out 3).trans rfl, (blk_cell BK428.out 4).trans rfl, (blk_cell BK428.out 5).trans rfl, (blk_cell BK398.out 0).trans rfl, (blk_cell BK398.out 1).trans rfl, (blk_cell BK398.out 2).trans rfl, (blk_cell BK398.out 3).trans rfl, (blk_cell BK398.out 4).trans rfl, (blk_cell BK398.out 5).trans rfl⟩ (fun hHeld => ?_)
      clear hK K
      refine nR ?_
      refine pP 4 (some 41) ?_
      refine done_ (by kernel_rfl) ?_
      try go_wp2_with (first | ((with_reducible refine gate_callee (f := 21) rfl ?_); refine gL (some 44) Try.func21 #[.slice A2 l2.length c2] ?_; (with_reducible refine (laws_toByteS.calls k _ _ l2 t446 _ ?side1 ?side2 A21.out).mono ?_); (case side1 => have X_ := (Kd.C_below HR2.out HB.out); exact TC); (case side2 => exact HC2.out); rintro e w51 ⟨v447, rfl, ho0, hb⟩; refine ⟨_, rfl, ?_⟩; have HO448 := aM (Kd.R_lower (Kd.R_new' (Kd.R_new' (Kd.R_new' (Kd.R_new' (Kd.R_new' (Kd.R_new' (Kd.R_new' (Kd.R_new' ho0 (Kd.R_lt (by have X_ := HO402.out; exact TR))) (Kd.R_lt (by have X_ := HO405.out; exact TR))) (Kd.R_lt (by have X_ := HO414.out; exact TR))) (Kd.R_lt (by have X_ := HO418.out; exact TR))) (Kd.R_lt (by have X_ := HO421.out; exact TR))) (Kd.R_lt (by have X_ := HO431.out; exact TR))) (Kd.R_lt (by have X_ := HO435.out; exact TR))) (Kd.R_lt (by have X_ := HO438.out; exact TR))) (below_size TB)); replace HO402 := aM (Kd.R_elder' (by have X_ := HO402.out; exact TR) (Kd.R_base ho0) hb); replace HO405 := aM (Kd.R_elder' (by have X_ := HO405.out; exact TR) (Kd.R_base ho0) hb); replace HO411 := aM (Kd.S_elder' (by have X_ := HO411.out; exact TS) (Kd.R_base ho0) hb); replace HO414 := aM (Kd.R_elder' (by have X_ := HO414.out; exact TR) (Kd.R_base ho0) hb); replace HO418 := aM (Kd.R_elder' (by have X_ := HO418.out; exact TR) (Kd.R_base ho0) hb); replace HO421 := aM (Kd.R_elder' (by have X_ := HO421.out; exact TR) (Kd.R_base ho0) hb); replace HO427 := aM (Kd.S_elder' (by have X_ := HO427.out; exact TS) (Kd.R_base ho0) hb); replace HO431 := aM (Kd.R_elder' (by have X_ := HO431.out; exact TR) (Kd.R_base ho0) hb); replace HO435 := aM (Kd.R_elder' (by have X_ := HO435.out; exact TR) (Kd.R_base ho0) hb); replace HO438 := aM (Kd.R_elder' (by have X_ := HO438.out; exact TR) (Kd.R_base ho0) hb); replace HO444 := aM (Kd.S_elder' (by have X_ := HO444.out; exact TS) (Kd.R_base ho0) hb); replace BK398 := aM (blk_below (by have X_ := BK398.out; exact TX) hb); replace BK428 := aM (blk_below (by have X_ := BK428.out; exact TX) hb); replace HB := aM (below_step TB hb); clear ho0 hb; obtain ⟨Ao52, co52, eo52⟩ := Kd.R_slice HO448.out; subst eo52) | ((with_reducible refine gate_callee (f := 23) rfl ?_); refine gL (some 45) Try.func23 #[.slice Ao43 t429.length co43, .slice Ao52 t446.length co52] ?_; (with_reducible refine (laws_eqByteS.calls k _ _ t429 _ _ t446 true _ ?side1 ?side2 ?side3 ?side4 A22.out).mono ?_); (case side1 => have X_ := (Kd.R_reads' HO431.out).2.2; exact TC); (case side2 => exact (Kd.R_reads' HO431.out).2.1); (case side3 => have X_ := (Kd.R_reads' HO448.out).2.2; exact TC); (case side4 => exact (Kd.R_reads' HO448.out).2.1); rintro e w' ⟨rfl, ⟨nd, rfl⟩⟩; refine ⟨_, rfl, ?_⟩))
      go_ret
      exact ⟨by first | rfl | (simp [errW_none, errW_some] <;> rfl) | (simp [*, errW_none, errW_some] <;> rfl), TB⟩

end Go.Proofs.Ytogilihkphjjbaa.Q
