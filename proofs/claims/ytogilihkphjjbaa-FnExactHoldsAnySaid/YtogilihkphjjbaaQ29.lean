/- Functions of the program as plain Lean functions, and that a call of each comes to what its function tells. Written by a program of this seat. -/
import Derived.Test.YtogilihkphjjbaaQ0
import Derived.Test.YtogilihkphjjbaaQ2
import Derived.Test.YtogilihkphjjbaaQ4
import Derived.Test.YtogilihkphjjbaaQ6
import Derived.Test.YtogilihkphjjbaaQ7
import Derived.Test.YtogilihkphjjbaaQ28
namespace Go.Proofs.Ytogilihkphjjbaa.Q
open Go.RowKit Go.Proofs.YtogilihkphjjbaaW.PrintWords Go.Proofs.YtogilihkphjjbaaW.PrintLast Go.Proofs.YtogilihkphjjbaaW.PrintMore
attribute [local go_sem] max2_int min2_int max_two min_two max_three min_three max_four min_four   -- for this text's walks alone
set_option linter.unusedVariables false
set_option linter.unusedSimpArgs false

/-! ### laws_FnExactHoldsAny: function 7 -/
def laws_FnExactHoldsAny.f (k : Nat) (l0_0 : List Int) (l0_1 : List Int) (a0_2 : Int) (a0_3 : Int) (a0_4 : Int) (l0_5 : List (S51)) (l1 : List Int) (a2 : Int) (l3 : List Int) : Option (Bool) := if (l1.length : Int) > 1048576 then (some true) else (if (l3.length : Int) > 1048576 then (some true) else ((laws_szDisk.f k l0_0 l0_1 a0_2 a0_3 a0_4 l0_5 1048576).bind fun t457 => (if t457 < 0 then (some true) else ((laws_toDisk.f k l0_0 l0_1 a0_2 a0_3 a0_4 l0_5).bind fun bt458 => ((laws_toByteS.f k l1).bind fun t470 => ((laws_toByteS.f k l3).bind fun t473 => ((spec_HoldsAny.f k bt458.1 bt458.2.1 bt458.2.2.1 bt458.2.2.2.1 bt458.2.2.2.2.1 bt458.2.2.2.2.2 t470 a2 t473).bind fun t476 => ((laws_toDisk.f k l0_0 l0_1 a0_2 a0_3 a0_4 l0_5).bind fun bt477 => ((laws_toByteS.f k l1).bind fun t490 => ((laws_toByteS.f k l3).bind fun t493 => ((impl_HoldsAny.f k bt477.1 bt477.2.1 bt477.2.2.1 bt477.2.2.2.1 bt477.2.2.2.2.1 bt477.2.2.2.2.2 t490 a2 t493).bind fun t496 => (if (t496 != t476) = true then (none) else ((laws_toDisk.f k l0_0 l0_1 a0_2 a0_3 a0_4 l0_5).bind fun bt497 => ((laws_eqDisk.f k bt477.1 bt477.2.1 bt477.2.2.1 bt477.2.2.2.1 bt477.2.2.2.2.1 bt477.2.2.2.2.2 bt497.1 bt497.2.1 bt497.2.2.1 bt497.2.2.2.1 bt497.2.2.2.2.1 bt497.2.2.2.2.2).bind fun t509 => (if t509 = true then ((laws_toByteS.f k l1).bind fun t510 => ((laws_eqByteS.f k t490 t510).bind fun t513 => (if t513 = true then ((laws_toByteS.f k l3).bind fun t514 => ((laws_eqByteS.f k t493 t514).bind fun t517 => (if t517 = true then (some true) else (none)))) else (none)))) else (none))))))))))))))))
theorem laws_FnExactHoldsAny.mono : ∀ a0 a1 a2 a3 a4 a5 a6 a7 a8 k, LeO (laws_FnExactHoldsAny.f k a0 a1 a2 a3 a4 a5 a6 a7 a8) (laws_FnExactHoldsAny.f (k + 1) a0 a1 a2 a3 a4 a5 a6 a7 a8) := by
  intro a0 a1 a2 a3 a4 a5 a6 a7 a8 k
  have m0_ := @impl_HoldsAny.mono
  have m1_ := @laws_eqByteS.mono
  have m2_ := @laws_eqDisk.mono
  have m3_ := @laws_szDisk.mono
  have m4_ := @laws_toByteS.mono
  have m5_ := @laws_toDisk.mono
  have m6_ := @spec_HoldsAny.mono
  unfold laws_FnExactHoldsAny.f
  exact LM
set_option maxHeartbeats 40000000 in
set_option maxRecDepth 100000 in
theorem laws_FnExactHoldsAny.calls (k : Nat) (A0_0 : Option Addr) (c0_0 : Nat) (l0_0 : List Int) (A0_1 : Option Addr) (c0_1 : Nat) (l0_1 : List Int) (a0_2 : Int) (a0_3 : Int) (a0_4 : Int) (A0_5 : Option Addr) (c0_5 : Nat) (l0_5 : List (S51)) (A1 : Option Addr) (c1 : Nat) (l1 : List Int) (a2 : Int) (A3 : Option Addr) (c3 : Nat) (l3 : List Int) (r : Bool) (w : World) (hr0_0 : Kd.C (Kd.int .u8) w A0_0 l0_0.length l0_0) (hc0_0 : l0_0.length ≤ c0_0) (hr0_1 : Kd.C (Kd.int .u8) w A0_1 l0_1.length l0_1) (hc0_1 : l0_1.length ≤ c0_1) (hr0_5 : Kd.C k51 w A0_5 l0_5.length l0_5) (hc0_5 : l0_5.length ≤ c0_5) (hr1 : Kd.C (Kd.int .u8) w A1 l1.length l1) (hc1 : l1.length ≤ c1) (hr3 : Kd.C (Kd.int .u8) w A3 l3.length l3) (hc3 : l3.length ≤ c3) (h : laws_FnExactHoldsAny.f k l0_0 l0_1 a0_2 a0_3 a0_4 l0_5 l1 a2 l3 = some r) :
    Calls Try.prog 7 #[.agg #[.slice A0_0 l0_0.length c0_0, .slice A0_1 l0_1.length c0_1, .int .i64 a0_2, .int .i64 a0_3, .int .i64 a0_4, .slice A0_5 l0_5.length c0_5], .slice A1 l1.length c1, .int .i64 a2, .slice A3 l3.length c3] w fun e w' => e = .returned (.bool r) ∧ Below w.heap.size w w' := by
  have hu27 := Try.underlying27
  have hu33 := Try.underlying33
  have HR0_0 := aM hr0_0
  have HC0_0 := aM hc0_0
  clear hr0_0 hc0_0
  have HR0_1 := aM hr0_1
  have HC0_1 := aM hc0_1
  clear hr0_1 hc0_1
  have HR0_5 := aM hr0_5
  have HC0_5 := aM hc0_5
  clear hr0_5 hc0_5
  have HR1 := aM hr1
  have HC1 := aM hc1
  clear hr1 hc1
  have HR3 := aM hr3
  have HC3 := aM hc3
  clear hr3 hc3
  have HB := aM (Below.refl w.heap.size w)
  have H := h
  clear h
  unfold laws_FnExactHoldsAny.f at H
  by_cases c5 : (l1.length : Int) > 1048576
  · rw [if_pos c5] at H
    have c5b0 : decide (1048576 < (l1.length : Int)) = true := decide_eq_true c5
    have c5b1 : decide (1048576 < l1.length) = true := decide_eq_true (by omega)
    clear c5
    obtain rfl := Option.some.inj H
    go_enter Try.func7, Try.ntmps7
    go_wp2_with (first | ((with_reducible refine gate_dst (N := 4) rfl ?_); refine gBx 4 #[.slice A0_0 l0_0.length c0_0, .slice A0_1 l0_1.length c0_1, .int .i64 a0_2, .int .i64 a0_3, .int .i64 a0_4, .slice A0_5 l0_5.length c0_5] 27 ?_; intro gb456 hg w6 hbox hb; have BK456 := aM (hbox); have GW456 := aM ((by rw [hg]; exact (below_size TB) : w.heap.size ≤ gb456)); have GE456 := aM ((by rw [hg]; exact (below_size TB) : w.heap.size ≤ gb456)); replace HB := aM (below_step TB hb); clear hb hbox hg))
    go_ret
    exact ⟨by first | rfl | (simp [errW_none, errW_some] <;> rfl) | (simp [*, errW_none, errW_some] <;> rfl), TB⟩
  · rw [if_neg c5] at H
    have c5b0 : decide (1048576 < (l1.length : Int)) = false := decide_eq_false c5
    have c5b1 : decide (1048576 < l1.length) = false := decide_eq_false (by omega)
    clear c5
    by_cases c7 : (l3.length : Int) > 1048576
    · rw [if_pos c7] at H
      have c7b0 : decide (1048576 < (l3.length : Int)) = true := decide_eq_true c7
      have c7b1 : decide (1048576 < l3.length) = true := decide_eq_true (by omega)
      clear c7
      obtain rfl := Option.some.inj H
      go_enter Try.func7, Try.ntmps7
      go_wp2_with (first | ((with_reducible refine gate_dst (N := 4) rfl ?_); refine gBx 4 #[.slice A0_0 l0_0.length c0_0, .slice A0_1 l0_1.length c0_1, .int .i64 a0_2, .int .i64 a0_3, .int .i64 a0_4, .slice A0_5 l0_5.length c0_5] 27 ?_; intro gb456 hg w8 hbox hb; have BK456 := aM (hbox); have GW456 := aM ((by rw [hg]; exact (below_size TB) : w.heap.size ≤ gb456)); have GE456 := aM ((by rw [hg]; exact (below_size TB) : w.heap.size ≤ gb456)); replace HB := aM (below_step TB hb); clear hb hbox hg))
      go_ret
      exact ⟨by first | rfl | (simp [errW_none, errW_some] <;> rfl) | (simp [*, errW_none, errW_some] <;> rfl), TB⟩
    · rw [if_neg c7] at H
      have c7b0 : decide (1048576 < (l3.length : Int)) = false := decide_eq_false c7
      have c7b1 : decide (1048576 < l3.length) = false := decide_eq_false (by omega)
      clear c7
      replace H := bE H
      obtain ⟨t457, A9, H⟩ := H
      go_enter Try.func7, Try.ntmps7
      go_wp2_with (first | ((with_reducible refine gate_dst (N := 4) rfl ?_); refine gBx 4 #[.slice A0_0 l0_0.length c0_0, .slice A0_1 l0_1.length c0_1, .int .i64 a0_2, .int .i64 a0_3, .int .i64 a0_4, .slice A0_5 l0_5.length c0_5] 27 ?_; intro gb456 hg w10 hbox hb; have BK456 := aM (hbox); have GW456 := aM ((by rw [hg]; exact (below_size TB) : w.heap.size ≤ gb456)); have GE456 := aM ((by rw [hg]; exact (below_size TB) : w.heap.size ≤ gb456)); replace HB := aM (below_step TB hb); clear hb hbox hg; obtain ⟨hcz11_0, hcz11_1, hcz11_2, hcz11_3, hcz11_4, hcz11_5⟩ := cz6 BK456.out; obtain ⟨hfz11_0, hfz11_1, hfz11_2, hfz11_3, hfz11_4, hfz11_5⟩ := fz6 BK456.out) | ((with_reducible refine gate_callee (f := 15) rfl ?_); (with_reducible refine gate_dst (N := 23) rfl ?_); generalize hG_ : wpList _ _ _ _ _ _ = G_))
      subst hG_
      by_cases c12 : t457 < 0
      · rw [if_pos c12] at H
        have c12b0 : decide (t457 < 0) = true := decide_eq_true c12
        clear c12
        obtain rfl := Option.some.inj H
        go_wp2_with (first | ((with_reducible refine gate_callee (f := 15) rfl ?_); refine gL (some 23) Try.func15 #[.agg #[.slice A0_0 l0_0.length c0_0, .slice A0_1 l0_1.length c0_1, .int .i64 a0_2, .int .i64 a0_3, .int .i64 a0_4, .slice A0_5 l0_5.length c0_5], .int .i64 1048576] ?_; (with_reducible refine (laws_szDisk.calls k _ _ l0_0 _ _ l0_1 a0_2 a0_3 a0_4 _ _ l0_5 1048576 t457 _ ?side1 ?side2 ?side3 ?side4 ?side5 ?side6 A9.out).mono ?_); (case side1 => repeat (first | exact (Kd.C_below HR0_0.out TB) | (with_reducible refine Kd.C_alloc ?_ _) | (with_reducible refine Kd.C_drewN ?_ _) | (with_reducible refine Kd.C_drew ?_))); (case side2 => exact HC0_0.out); (case side3 => repeat (first | exact (Kd.C_below HR0_1.out TB) | (with_reducible refine Kd.C_alloc ?_ _) | (with_reducible refine Kd.C_drewN ?_ _) | (with_reducible refine Kd.C_drew ?_))); (case side4 => exact HC0_1.out); (case side5 => repeat (first | exact (Kd.C_below HR0_5.out TB) | (with_reducible refine Kd.C_alloc ?_ _) | (with_reducible refine Kd.C_drewN ?_ _) | (with_reducible refine Kd.C_drew ?_))); (case side6 => exact HC0_5.out); rintro e w13 ⟨rfl, hb⟩; refine ⟨_, rfl, ?_⟩; replace BK456 := aM (blk_below (by have X_ := BK456.out; exact TX) hb); replace HB := aM (below_step TB hb); clear hb))
        go_ret
        exact ⟨by first | rfl | (simp [errW_none, errW_some] <;> rfl) | (simp [*, errW_none, errW_some] <;> rfl), TB⟩
      · rw [if_neg c12] at H
        have c12b0 : decide (t457 < 0) = false := decide_eq_false c12
        clear c12
        replace H := bE H
        obtain ⟨⟨t458, t461, t464, t465, t466, t467⟩, A14, H⟩ := H
        dsimp only at H
        replace H := bE H
        obtain ⟨t470, A15, H⟩ := H
        replace H := bE H
        obtain ⟨t473, A16, H⟩ := H
        replace H := bE H
        obtain ⟨t476, A17, H⟩ := H
        replace H := bE H
        obtain ⟨⟨t477, t480, t483, t484, t485, t486⟩, A18, H⟩ := H
        dsimp only at H
        replace H := bE H
        obtain ⟨t490, A19, H⟩ := H
        replace H := bE H
        obtain ⟨t493, A20, H⟩ := H
        replace H := bE H
        obtain ⟨t496, A21, H⟩ := H
        replace H := ifM H
        obtain ⟨c22, H⟩ := H
        have c22b0 : (t496 != t476) = false := by simpa using c22
        (try (have c22b1 : decide (t496 = t476) = true := by simpa using c22))
        (try (have c22b2 : (t496 == t476) = true := by simpa using c22))
        clear c22
        replace H := bE H
        obtain ⟨⟨t497, t500, t503, t504, t505, t506⟩, A23, H⟩ := H
        dsimp only at H
        replace H := bE H
        obtain ⟨t509, A24, H⟩ := H
        replace H := ifN H
        obtain ⟨c25, H⟩ := H
        subst c25
        replace H := bE H
        obtain ⟨t510, A26, H⟩ := H
        replace H := bE H
        obtain ⟨t513, A27, H⟩ := H
        replace H := ifN H
        obtain ⟨c28, H⟩ := H
        subst c28
        replace H := bE H
        obtain ⟨t514, A29, H⟩ := H
        replace H := bE H
        obtain ⟨t517, A30, H⟩ := H
        replace H := ifN H
        obtain ⟨c31, H⟩ := H
        subst c31
        obtain rfl := Option.some.inj H
        try go_wp2_with (first | ((with_reducible refine gate_callee (f := 15) rfl ?_); refine gL (some 23) Try.func15 #[.agg #[.slice A0_0 l0_0.length c0_0, .slice A0_1 l0_1.length c0_1, .int .i64 a0_2, .int .i64 a0_3, .int .i64 a0_4, .slice A0_5 l0_5.length c0_5], .int .i64 1048576] ?_; (with_reducible refine (laws_szDisk.calls k _ _ l0_0 _ _ l0_1 a0_2 a0_3 a0_4 _ _ l0_5 1048576 t457 _ ?side1 ?side2 ?side3 ?side4 ?side5 ?side6 A9.out).mono ?_); (case side1 => repeat (first | exact (Kd.C_below HR0_0.out TB) | (with_reducible refine Kd.C_alloc ?_ _) | (with_reducible refine Kd.C_drewN ?_ _) | (with_reducible refine Kd.C_drew ?_))); (case side2 => exact HC0_0.out); (case side3 => repeat (first | exact (Kd.C_below HR0_1.out TB) | (with_reducible refine Kd.C_alloc ?_ _) | (with_reducible refine Kd.C_drewN ?_ _) | (with_reducible refine Kd.C_drew ?_))); (case side4 => exact HC0_1.out); (case side5 => repeat (first | exact (Kd.C_below HR0_5.out TB) | (with_reducible refine Kd.C_alloc ?_ _) | (with_reducible refine Kd.C_drewN ?_ _) | (with_reducible refine Kd.C_drew ?_))); (case side6 => exact HC0_5.out); rintro e w32 ⟨rfl, hb⟩; refine ⟨_, rfl, ?_⟩; replace BK456 := aM (blk_below (by have X_ := BK456.out; exact TX) hb); replace HB := aM (below_step TB hb); clear hb; obtain ⟨hcz33_0, hcz33_1, hcz33_2, hcz33_3, hcz33_4, hcz33_5⟩ := cz6 BK456.out; obtain ⟨hfz33_0, hfz33_1, hfz33_2, hfz33_3, hfz33_4, hfz33_5⟩ := fz6 BK456.out) | ((with_reducible refine gate_callee (f := 17) rfl ?_); refine gL (some 27) Try.func17 #[.agg #[.slice A0_0 l0_0.length c0_0, .slice A0_1 l0_1.length c0_1, .int .i64 a0_2, .int .i64 a0_3, .int .i64 a0_4, .slice A0_5 l0_5.length c0_5]] ?_; (with_reducible refine (laws_toDisk.calls k _ _ l0_0 _ _ l0_1 a0_2 a0_3 a0_4 _ _ l0_5 t458 t461 t464 t465 t466 t467 _ ?side1 ?side2 ?side3 ?side4 ?side5 ?side6 A14.out).mono ?_); (case side1 => have X_ := (Kd.C_below HR0_0.out HB.out); exact TC); (case side2 => exact HC0_0.out); (case side3 => have X_ := (Kd.C_below HR0_1.out HB.out); exact TC); (case side4 => exact HC0_1.out); (case side5 => have X_ := (Kd.C_below HR0_5.out HB.out); exact TC); (case side6 => exact HC0_5.out); rintro e w34 ⟨v459, v462, v468, rfl, ho0, ho1, ho2, hb⟩; refine ⟨_, rfl, ?_⟩; have HO460 := aM (Kd.R_lower ho0 (below_size TB)); have HO463 := aM (Kd.R_lower ho1 (below_size TB)); have HO469 := aM (Kd.S_lower ho2 (below_size TB)); replace BK456 := aM (blk_below (by have X_ := BK456.out; exact TX) hb); replace HB := aM (below_step TB hb); clear ho0 ho1 ho2 hb) | ((with_reducible refine gate_callee (f := 21) rfl ?_); refine gL (some 29) Try.func21 #[.slice A1 l1.length c1] ?_; (with_reducible refine (laws_toByteS.calls k _ _ l1 t470 _ ?side1 ?side2 A15.out).mono ?_); (case side1 => have X_ := (Kd.C_below HR1.out HB.out); exact TC); (case side2 => exact HC1.out); rintro e w35 ⟨v471, rfl, ho0, hb⟩; refine ⟨_, rfl, ?_⟩; have HO472 := aM (Kd.R_lower (Kd.R_new' (Kd.R_new' ho0 (Kd.R_lt (by have X_ := HO460.out; exact TR))) (Kd.R_lt (by have X_ := HO463.out; exact TR))) (below_size TB)); replace HO460 := aM (Kd.R_elder' (by have X_ := HO460.out; exact TR) (Kd.R_base ho0) hb); replace HO463 := aM (Kd.R_elder' (by have X_ := HO463.out; exact TR) (Kd.R_base ho0) hb); replace HO469 := aM (Kd.S_elder' (by have X_ := HO469.out; exact TS) (Kd.R_base ho0) hb); replace BK456 := aM (blk_below (by have X_ := BK456.out; exact TX) hb); replace HB := aM (below_step TB hb); clear ho0 hb) | ((with_reducible refine gate_callee (f := 21) rfl ?_); refine gL (some 32) Try.func21 #[.slice A3 l3.length c3] ?_; (with_reducible refine (laws_toByteS.calls k _ _ l3 t473 _ ?side1 ?side2 A16.out).mono ?_); (case side1 => have X_ := (Kd.C_below HR3.out HB.out); exact TC); (case side2 => exact HC3.out); rintro e w36 ⟨v474, rfl, ho0, hb⟩; refine ⟨_, rfl, ?_⟩; have HO475 := aM (Kd.R_lower (Kd.R_new' (Kd.R_new' (Kd.R_new' ho0 (Kd.R_lt (by have X_ := HO460.out; exact TR))) (Kd.R_lt (by have X_ := HO463.out; exact TR))) (Kd.R_lt (by have X_ := HO472.out; exact TR))) (below_size TB)); replace HO460 := aM (Kd.R_elder' (by have X_ := HO460.out; exact TR) (Kd.R_base ho0) hb); replace HO463 := aM (Kd.R_elder' (by have X_ := HO463.out; exact TR) (Kd.R_base ho0) hb); replace HO469 := aM (Kd.S_elder' (by have X_ := HO469.out; exact TS) (Kd.R_base ho0) hb); replace HO472 := aM (Kd.R_elder' (by have X_ := HO472.out; exact TR) (Kd.R_base ho0) hb); replace BK456 := aM (blk_below (by have X_ := BK456.out; exact TX) hb); replace HB := aM (below_step TB hb); clear ho0 hb; obtain ⟨Ao37, co37, eo37⟩ := Kd.R_slice HO460.out; subst eo37; obtain ⟨Ao38, co38, eo38⟩ := Kd.R_slice HO463.out; subst eo38; obtain ⟨Ao39, co39, eo39⟩ := Kd.S_slice HO469.out; subst eo39; obtain ⟨Ao40, co40, eo40⟩ := Kd.R_slice HO472.out; subst eo40; obtain ⟨Ao41, co41, eo41⟩ := Kd.R_slice HO475.out; subst eo41) | ((with_reducible refine gate_callee (f := 31) rfl ?_); refine gL (some 33) Try.func31 #[.agg #[.slice Ao37 t458.length co37, .slice Ao38 t461.length co38, .int .i64 t464, .int .i64 t465, .int .i64 t466, .slice Ao39 t467.length co39], .slice Ao40 t470.length co40, .int .i64 a2, .slice Ao41 t473.length co41] ?_; (with_reducible refine (spec_HoldsAny.calls k _ _ t458 _ _ t461 t464 t465 t466 _ _ t467 _ _ t470 a2 _ _ t473 t476 _ ?side1 ?side2 ?side3 ?side4 ?side5 ?side6 ?side7 ?side8 ?side9 ?side10 A17.out).mono ?_); (case side1 => have X_ := (Kd.R_reads' HO460.out).2.2; exact TC); (case side2 => exact (Kd.R_reads' HO460.out).2.1); (case side3 => have X_ := (Kd.R_reads' HO463.out).2.2; exact TC); (case side4 => exact (Kd.R_reads' HO463.out).2.1); (case side5 => have X_ := (Kd.S_reads' HO469.out).2.2; exact TC); (case side6 => exact (Kd.S_reads' HO469.out).2.1); (case side7 => have X_ := (Kd.R_reads' HO472.out).2.2; exact TC); (case side8 => exact (Kd.R_reads' HO472.out).2.1); (case side9 => have X_ := (Kd.R_reads' HO475.out).2.2; exact TC); (case side10 => exact (Kd.R_reads' HO475.out).2.1); rintro e w42 ⟨rfl, hb⟩; refine ⟨_, rfl, ?_⟩; replace HO460 := aM (Kd.R_below (by have X_ := HO460.out; exact TR) hb); replace HO463 := aM (Kd.R_below (by have X_ := HO463.out; exact TR) hb); replace HO469 := aM (Kd.S_below (by have X_ := HO469.out; exact TS) hb); replace HO472 := aM (Kd.R_below (by have X_ := HO472.out; exact TR) hb); replace HO475 := aM (Kd.R_below (by have X_ := HO475.out; exact TR) hb); replace BK456 := aM (blk_below (by have X_ := BK456.out; exact TX) hb); replace HB := aM (below_step TB hb); clear hb; obtain ⟨hcz43_0, hcz43_1, hcz43_2, hcz43_3, hcz43_4, hcz43_5⟩ := cz6 BK456.out; obtain ⟨hfz43_0, hfz43_1, hfz43_2, hfz43_3, hfz43_4, hfz43_5⟩ := fz6 BK456.out) | ((with_reducible refine gate_callee (f := 17) rfl ?_); refine gL (some 35) Try.func17 #[.agg #[.slice A0_0 l0_0.length c0_0, .slice A0_1 l0_1.length c0_1, .int .i64 a0_2, .int .i64 a0_3, .int .i64 a0_4, .slice A0_5 l0_5.length c0_5]] ?_; (with_reducible refine (laws_toDisk.calls k _ _ l0_0 _ _ l0_1 a0_2 a0_3 a0_4 _ _ l0_5 t477 t480 t483 t484 t485 t486 _ ?side1 ?side2 ?side3 ?side4 ?side5 ?side6 A18.out).mono ?_); (case side1 => have X_ := (Kd.C_below HR0_0.out HB.out); exact TC); (case side2 => exact HC0_0.out); (case side3 => have X_ := (Kd.C_below HR0_1.out HB.out); exact TC); (case side4 => exact HC0_1.out); (case side5 => have X_ := (Kd.C_below HR0_5.out HB.out); exact TC); (case side6 => exact HC0_5.out); rintro e w44 ⟨v478, v481, v487, rfl, ho0, ho1, ho2, hb⟩; refine ⟨_, rfl, ?_⟩; have HO479 := aM (Kd.R_lower (Kd.R_new' (Kd.R_new' (Kd.R_new' (Kd.R_new' ho0 (Kd.R_lt (by have X_ := HO460.out; exact TR))) (Kd.R_lt (by have X_ := HO463.out; exact TR))) (Kd.R_lt (by have X_ := HO472.out; exact TR))) (Kd.R_lt (by have X_ := HO475.out; exact TR))) (below_size TB)); have HO482 := aM (Kd.R_lower (Kd.R_new' (Kd.R_new' (Kd.R_new' (Kd.R_new' ho1 (Kd.R_lt (by have X_ := HO460.out; exact TR))) (Kd.R_lt (by have X_ := HO463.out; exact TR))) (Kd.R_lt (by have X_ := HO472.out; exact TR))) (Kd.R_lt (by have X_ := HO475.out; exact TR))) (below_size TB)); have HO488 := aM (Kd.S_lower (Kd.S_new' (Kd.S_new' (Kd.S_new' (Kd.S_new' (Kd.S_new' ho2 (Kd.R_lt (by have X_ := HO460.out; exact TR))) (Kd.R_lt (by have X_ := HO463.out; exact TR))) (Kd.S_lt (by have X_ := HO469.out; exact TS))) (Kd.R_lt (by have X_ := HO472.out; exact TR))) (Kd.R_lt (by have X_ := HO475.out; exact TR))) (below_size TB)); replace HO460 := aM (Kd.R_mono (Kd.R_told (Kd.R_told (Kd.R_old (by have X_ := HO460.out; exact TR) hb) (Kd.R_base ho0)) (Kd.R_base ho1)) (fun _ h_ => h_.1)); replace HO463 := aM (Kd.R_mono (Kd.R_told (Kd.R_told (Kd.R_old (by have X_ := HO463.out; exact TR) hb) (Kd.R_base ho0)) (Kd.R_base ho1)) (fun _ h_ => h_.1)); replace HO469 := aM (Kd.S_mono (Kd.S_told (Kd.S_told (Kd.S_told (Kd.S_old (by have X_ := HO469.out; exact TS) hb) (Kd.R_base ho0)) (Kd.R_base ho1)) (Kd.S_base ho2)) (fun _ h_ => h_.1)); replace HO472 := aM (Kd.R_mono (Kd.R_told (Kd.R_told (Kd.R_old (by have X_ := HO472.out; exact TR) hb) (Kd.R_base ho0)) (Kd.R_base ho1)) (fun _ h_ => h_.1)); replace HO475 := aM (Kd.R_mono (Kd.R_told (Kd.R_told (Kd.R_old (by have X_ := HO475.out; exact TR) hb) (Kd.R_base ho0)) (Kd.R_base ho1)) (fun _ h_ => h_.1)); replace BK456 := aM (blk_below (by have X_ := BK456.out; exact TX) hb); replace HB := aM (below_step TB hb); clear ho0 ho1 ho2 hb) | ((with_reducible refine gate_dst (N := 11) rfl ?_); refine gBx 11 #[.slice none 0 0, .slice none 0 0, .int .i64 0, .int .i64 0, .int .i64 0, .slice none 0 0] 33 ?_; intro gb489 hg w45 hbox hb; have BK489 := aM (hbox); have GW489 := aM ((by rw [hg]; exact (below_size TB) : w.heap.size ≤ gb489)); have GE489 := aM ((by rw [hg]; exact (below_size TB) : w.heap.size ≤ gb489)); have NB456_489 := aM ((by rw [hg]; exact Nat.ne_of_lt (blk_lt (by have X_ := BK456.out; exact TX)) : gb456 ≠ gb489)); have NB489_456 := aM ((by rw [hg]; exact Nat.ne_of_gt (blk_lt (by have X_ := BK456.out; exact TX)) : gb489 ≠ gb456)); replace HO460 := aM (Kd.R_below (by have X_ := HO460.out; exact TR) hb); replace HO463 := aM (Kd.R_below (by have X_ := HO463.out; exact TR) hb); replace HO469 := aM (Kd.S_below (by have X_ := HO469.out; exact TS) hb); replace HO472 := aM (Kd.R_below (by have X_ := HO472.out; exact TR) hb); replace HO475 := aM (Kd.R_below (by have X_ := HO475.out; exact TR) hb); replace HO479 := aM (Kd.R_below (by have X_ := HO479.out; exact TR) hb); replace HO482 := aM (Kd.R_below (by have X_ := HO482.out; exact TR) hb); replace HO488 := aM (Kd.S_below (by have X_ := HO488.out; exact TS) hb); replace BK456 := aM (blk_below (by have X_ := BK456.out; exact TX) hb); replace HB := aM (below_step TB hb); clear hb hbox hg; obtain ⟨Ao46, co46, eo46⟩ := Kd.R_slice HO479.out; subst eo46; have hnb47 := NB489_456.out; have hnc47 := NB456_489.out; obtain ⟨hcz48_0, hcz48_1, hcz48_2, hcz48_3, hcz48_4, hcz48_5⟩ := cz6 BK489.out; obtain ⟨hfz48_0, hfz48_1, hfz48_2, hfz48_3, hfz48_4, hfz48_5⟩ := fz6 BK489.out; obtain ⟨Ao49, co49, eo49⟩ := Kd.R_slice HO482.out; subst eo49; obtain ⟨Ao50, co50, eo50⟩ := Kd.S_slice HO488.out; subst eo50) | ((with_reducible refine gate_callee (f := 21) rfl ?_); refine gL (some 37) Try.func21 #[.slice A1 l1.length c1] ?_; (with_reducible refine (laws_toByteS.calls k _ _ l1 t490 _ ?side1 ?side2 A19.out).mono ?_); (case side1 => exact Kd.C_below HR1.out TB); (case side2 => exact HC1.out); rintro e w51 ⟨v491, rfl, ho0, hb⟩; refine ⟨_, rfl, ?_⟩; have HO492 := aM (Kd.R_lower (Kd.R_new' (Kd.R_new' (Kd.R_new' (Kd.R_new' (Kd.R_new' (Kd.R_new' ho0 (Kd.R_lt (by (with_reducible repeat (first | apply Kd.R_alloc | apply Kd.R_drewN | apply Kd.R_drew)); exact (R_off (Kd.R_types HO460.out BK489.out (by decide)) TO)))) (Kd.R_lt (by (with_reducible repeat (first | apply Kd.R_alloc | apply Kd.R_drewN | apply Kd.R_drew)); exact (R_off (Kd.R_types HO463.out BK489.out (by decide)) TO)))) (Kd.R_lt (by (with_reducible repeat (first | apply Kd.R_alloc | apply Kd.R_drewN | apply Kd.R_drew)); exact (R_off (Kd.R_types HO472.out BK489.out (by decide)) TO)))) (Kd.R_lt (by (with_reducible repeat (first | apply Kd.R_alloc | apply Kd.R_drewN | apply Kd.R_drew)); exact (R_off (Kd.R_types HO475.out BK489.out (by decide)) TO)))) (Kd.R_lt (by (with_reducible repeat (first | apply Kd.R_alloc | apply Kd.R_drewN | apply Kd.R_drew)); exact (R_off (Kd.R_types HO479.out BK489.out (by decide)) TO)))) (Kd.R_lt (by (with_reducible repeat (first | apply Kd.R_alloc | apply Kd.R_drewN | apply Kd.R_drew)); exact (R_off (Kd.R_types HO482.out BK489.out (by decide)) TO)))) (below_size TB)); replace HO460 := aM (Kd.R_elder' (by (with_reducible repeat (first | apply Kd.R_alloc | apply Kd.R_drewN | apply Kd.R_drew)); exact (R_off (Kd.R_types HO460.out BK489.out (by decide)) TO)) (Kd.R_base ho0) hb); replace HO463 := aM (Kd.R_elder' (by (with_reducible repeat (first | apply Kd.R_alloc | apply Kd.R_drewN | apply Kd.R_drew)); exact (R_off (Kd.R_types HO463.out BK489.out (by decide)) TO)) (Kd.R_base ho0) hb); replace HO469 := aM (Kd.S_elder' (by (with_reducible repeat (first | apply Kd.S_alloc | apply Kd.S_drewN | apply Kd.S_drew)); exact (S_off (Kd.S_types HO469.out BK489.out (by decide)) TO)) (Kd.R_base ho0) hb); replace HO472 := aM (Kd.R_elder' (by (with_reducible repeat (first | apply Kd.R_alloc | apply Kd.R_drewN | apply Kd.R_drew)); exact (R_off (Kd.R_types HO472.out BK489.out (by decide)) TO)) (Kd.R_base ho0) hb); replace HO475 := aM (Kd.R_elder' (by (with_reducible repeat (first | apply Kd.R_alloc | apply Kd.R_drewN | apply Kd.R_drew)); exact (R_off (Kd.R_types HO475.out BK489.out (by decide)) TO)) (Kd.R_base ho0) hb); replace HO479 := aM (Kd.R_elder' (by (with_reducible repeat (first | apply Kd.R_alloc | apply Kd.R_drewN | apply Kd.R_drew)); exact (R_off (Kd.R_types HO479.out BK489.out (by decide)) TO)) (Kd.R_base ho0) hb); replace HO482 := aM (Kd.R_elder' (by (with_reducible repeat (first | apply Kd.R_alloc | apply Kd.R_drewN | apply Kd.R_drew)); exact (R_off (Kd.R_types HO482.out BK489.out (by decide)) TO)) (Kd.R_base ho0) hb); replace HO488 := aM (Kd.S_elder' (by (with_reducible repeat (first | apply Kd.S_alloc | apply Kd.S_drewN | apply Kd.S_drew)); exact (S_off (Kd.S_types HO488.out BK489.out (by decide)) TO)) (Kd.R_base ho0) hb); replace BK456 := aM (blk_below (g := gb456) (o := .cells #[.slice A0_0 l0_0.length c0_0, .slice A0_1 l0_1.length c0_1, .int .i64 a0_2, .int .i64 a0_3, .int .i64 a0_4, .slice A0_5 l0_5.length c0_5] 27 (0, 0)) (by (with_reducible repeat (first | refine blk_drewN ?_ _ | refine blk_drew ?_ | refine blk_alloc ?_ _)); refine blk_far ?_ NB456_489.out _; (with_reducible repeat (first | refine blk_drewN ?_ _ | refine blk_drew ?_ | refine blk_alloc ?_ _)); refine blk_far ?_ NB456_489.out _; (with_reducible repeat (first | refine blk_drewN ?_ _ | refine blk_drew ?_ | refine blk_alloc ?_ _)); refine blk_far ?_ NB456_489.out _; (with_reducible repeat (first | refine blk_drewN ?_ _ | refine blk_drew ?_ | refine blk_alloc ?_ _)); refine blk_far ?_ NB456_489.out _; (with_reducible repeat (first | refine blk_drewN ?_ _ | refine blk_drew ?_ | refine blk_alloc ?_ _)); refine blk_far ?_ NB456_489.out _; (with_reducible repeat (first | refine blk_drewN ?_ _ | refine blk_drew ?_ | refine blk_alloc ?_ _)); refine blk_far ?_ NB456_489.out _; (with_reducible repeat (first | refine blk_drewN ?_ _ | refine blk_drew ?_ | refine blk_alloc ?_ _)); exact BK456.out) hb); replace BK489 := aM (blk_below (g := gb489) (o := .cells #[.slice Ao46 t477.length co46, .slice Ao49 t480.length co49, .int .i64 t483, .int .i64 t484, .int .i64 t485, .slice Ao50 t486.length co50] 33 (0, 0)) (by (with_reducible repeat (first | refine blk_drewN ?_ _ | refine blk_drew ?_ | refine blk_alloc ?_ _)); refine blk_put (cs := #[.slice Ao46 t477.length co46, .slice Ao49 t480.length co49, .int .i64 t483, .int .i64 t484, .int .i64 t485, .slice none 0 0]) ?_ 5 _ rfl; (with_reducible repeat (first | refine blk_drewN ?_ _ | refine blk_drew ?_ | refine blk_alloc ?_ _)); refine blk_put (cs := #[.slice Ao46 t477.length co46, .slice Ao49 t480.length co49, .int .i64 t483, .int .i64 t484, .int .i64 0, .slice none 0 0]) ?_ 4 _ rfl; (with_reducible repeat (first | refine blk_drewN ?_ _ | refine blk_drew ?_ | refine blk_alloc ?_ _)); refine blk_put (cs := #[.slice Ao46 t477.length co46, .slice Ao49 t480.length co49, .int .i64 t483, .int .i64 0, .int .i64 0, .slice none 0 0]) ?_ 3 _ rfl; (with_reducible repeat (first | refine blk_drewN ?_ _ | refine blk_drew ?_ | refine blk_alloc ?_ _)); refine blk_put (cs := #[.slice Ao46 t477.length co46, .slice Ao49 t480.length co49, .int .i64 0, .int .i64 0, .int .i64 0, .slice none 0 0]) ?_ 2 _ rfl; (with_reducible repeat (first | refine blk_drewN ?_ _ | refine blk_drew ?_ | refine blk_alloc ?_ _)); refine blk_put (cs := #[.slice Ao46 t477.length co46, .slice none 0 0, .int .i64 0, .int .i64 0, .int .i64 0, .slice none 0 0]) ?_ 1 _ rfl; (with_reducible repeat (first | refine blk_drewN ?_ _ | refine blk_drew ?_ | refine blk_alloc ?_ _)); refine blk_put (cs := #[.slice none 0 0, .slice none 0 0, .int .i64 0, .int .i64 0, .int .i64 0, .slice none 0 0]) ?_ 0 _ rfl; (with_reducible repeat (first | refine blk_drewN ?_ _ | refine blk_drew ?_ | refine blk_alloc ?_ _)); exact BK489.out) hb); replace HB := aM (below_step TB hb); clear ho0 hb) | ((with_reducible refine gate_callee (f := 21) rfl ?_); refine gL (some 39) Try.func21 #[.slice A3 l3.length c3] ?_; (with_reducible refine (laws_toByteS.calls k _ _ l3 t493 _ ?side1 ?side2 A20.out).mono ?_); (case side1 => have X_ := (Kd.C_below HR3.out HB.out); exact TC); (case side2 => exact HC3.out); rintro e w52 ⟨v494, rfl, ho0, hb⟩; refine ⟨_, rfl, ?_⟩; have HO495 := aM (Kd.R_lower (Kd.R_new' (Kd.R_new' (Kd.R_new' (Kd.R_new' (Kd.R_new' (Kd.R_new' (Kd.R_new' ho0 (Kd.R_lt (by have X_ := HO460.out; exact TR))) (Kd.R_lt (by have X_ := HO463.out; exact TR))) (Kd.R_lt (by have X_ := HO472.out; exact TR))) (Kd.R_lt (by have X_ := HO475.out; exact TR))) (Kd.R_lt (by have X_ := HO479.out; exact TR))) (Kd.R_lt (by have X_ := HO482.out; exact TR))) (Kd.R_lt (by have X_ := HO492.out; exact TR))) (below_size TB)); replace HO460 := aM (Kd.R_elder' (by have X_ := HO460.out; exact TR) (Kd.R_base ho0) hb); replace HO463 := aM (Kd.R_elder' (by have X_ := HO463.out; exact TR) (Kd.R_base ho0) hb); replace HO469 := aM (Kd.S_elder' (by have X_ := HO469.out; exact TS) (Kd.R_base ho0) hb); replace HO472 := aM (Kd.R_elder' (by have X_ := HO472.out; exact TR) (Kd.R_base ho0) hb); replace HO475 := aM (Kd.R_elder' (by have X_ := HO475.out; exact TR) (Kd.R_base ho0) hb); replace HO479 := aM (Kd.R_elder' (by have X_ := HO479.out; exact TR) (Kd.R_base ho0) hb); replace HO482 := aM (Kd.R_elder' (by have X_ := HO482.out; exact TR) (Kd.R_base ho0) hb); replace HO488 := aM (Kd.S_elder' (by have X_ := HO488.out; exact TS) (Kd.R_base ho0) hb); replace HO492 := aM (Kd.R_elder' (by have X_ := HO492.out; exact TR) (Kd.R_base ho0) hb); replace BK456 := aM (blk_below (by have X_ := BK456.out; exact TX) hb); replace BK489 := aM (blk_below (by have X_ := BK489.out; exact TX) hb); replace HB := aM (below_step TB hb); clear ho0 hb; obtain ⟨hcz53_0, hcz53_1, hcz53_2, hcz53_3, hcz53_4, hcz53_5⟩ := cz6 BK489.out; obtain ⟨hfz53_0, hfz53_1, hfz53_2, hfz53_3, hfz53_4, hfz53_5⟩ := fz6 BK489.out; obtain ⟨Ao54, co54, eo54⟩ := Kd.R_slice HO492.out; subst eo54; obtain ⟨Ao55, co55, eo55⟩ := Kd.R_slice HO495.out; subst eo55) | ((with_reducible refine gate_callee (f := 32) rfl ?_); refine gL (some 44) Try.func32 #[.agg #[.slice Ao46 t477.length co46, .slice Ao49 t480.length co49, .int .i64 t483, .int .i64 t484, .int .i64 t485, .slice Ao50 t486.length co50], .slice Ao54 t490.length co54, .int .i64 a2, .slice Ao55 t493.length co55] ?_; (with_reducible refine (impl_HoldsAny.calls k _ _ t477 _ _ t480 t483 t484 t485 _ _ t486 _ _ t490 a2 _ _ t493 t496 _ ?side1 ?side2 ?side3 ?side4 ?side5 ?side6 ?side7 ?side8 ?side9 ?side10 A21.out).mono ?_); (case side1 => have X_ := (Kd.R_reads' HO479.out).2.2; exact TC); (case side2 => exact (Kd.R_reads' HO479.out).2.1); (case side3 => have X_ := (Kd.R_reads' HO482.out).2.2; exact TC); (case side4 => exact (Kd.R_reads' HO482.out).2.1); (case side5 => have X_ := (Kd.S_reads' HO488.out).2.2; exact TC); (case side6 => exact (Kd.S_reads' HO488.out).2.1); (case side7 => have X_ := (Kd.R_reads' HO492.out).2.2; exact TC); (case side8 => exact (Kd.R_reads' HO492.out).2.1); (case side9 => have X_ := (Kd.R_reads' HO495.out).2.2; exact TC); (case side10 => exact (Kd.R_reads' HO495.out).2.1); rintro e w56 ⟨rfl, hb⟩; refine ⟨_, rfl, ?_⟩; replace HO460 := aM (Kd.R_below (by have X_ := HO460.out; exact TR) hb); replace HO463 := aM (Kd.R_below (by have X_ := HO463.out; exact TR) hb); replace HO469 := aM (Kd.S_below (by have X_ := HO469.out; exact TS) hb); replace HO472 := aM (Kd.R_below (by have X_ := HO472.out; exact TR) hb); replace HO475 := aM (Kd.R_below (by have X_ := HO475.out; exact TR) hb); replace HO479 := aM (Kd.R_below (by have X_ := HO479.out; exact TR) hb); replace HO482 := aM (Kd.R_below (by have X_ := HO482.out; exact TR) hb); replace HO488 := aM (Kd.S_below (by have X_ := HO488.out; exact TS) hb); replace HO492 := aM (Kd.R_below (by have X_ := HO492.out; exact TR) hb); replace HO495 := aM (Kd.R_below (by have X_ := HO495.out; exact TR) hb); replace BK456 := aM (blk_below (by have X_ := BK456.out; exact TX) hb); replace BK489 := aM (blk_below (by have X_ := BK489.out; exact TX) hb); replace HB := aM (below_step TB hb); clear hb))
        replace HO460 := aM (Kd.R_drew HO460.out)
        replace HO463 := aM (Kd.R_drew HO463.out)
        replace HO469 := aM (Kd.S_drew HO469.out)
        replace HO472 := aM (Kd.R_drew HO472.out)
        replace HO475 := aM (Kd.R_drew HO475.out)
        replace HO479 := aM (Kd.R_drew HO479.out)
        replace HO482 := aM (Kd.R_drew HO482.out)
        replace HO488 := aM (Kd.S_drew HO488.out)
        replace HO492 := aM (Kd.R_drew HO492.out)
        replace HO495 := aM (Kd.R_drew HO495.out)
        replace BK456 := aM (blk_drew BK456.out)
        replace BK489 := aM (blk_drew BK489.out)
        replace HB := aM (below_drew1 HB.out)
        refine start_ (n := 5) (S := fun w' => w'.cell? ⟨gb489, 0, none⟩ = some (.slice Ao46 t477.length co46) ∧ w'.cell? ⟨gb489, 1, none⟩ = some (.slice Ao49 t480.length co49) ∧ w'.cell? ⟨gb489, 2, none⟩ = some (.int .i64 t483) ∧ w'.cell? ⟨gb489, 3, none⟩ = some (.int .i64 t484) ∧ w'.cell? ⟨gb489, 4, none⟩ = some (.int .i64 t485) ∧ w'.cell? ⟨gb489, 5, none⟩ = some (.slice Ao50 t486.length co50) ∧ w'.cell? ⟨gb456, 0, none⟩ = some (.slice A0_0 l0_0.length c0_0) ∧ w'.cell? ⟨gb456, 1, none⟩ = some (.slice A0_1 l0_1.length c0_1) ∧ w'.cell? ⟨gb456, 2, none⟩ = some (.int .i64 a0_2) ∧ w'.cell? ⟨gb456, 3, none⟩ = some (.int .i64 a0_3) ∧ w'.cell? ⟨gb456, 4, none⟩ = some (.int .i64 a0_4) ∧ w'.cell? ⟨gb456, 5, none⟩ = some (.slice A0_5 l0_5.length c0_5)) (ds := []) (Array.replicate 5 false) (by kernel_rfl) rfl rfl ⟨(blk_cell BK489.out 0).trans rfl, (blk_cell BK489.out 1).trans rfl, (blk_cell BK489.out 2).trans rfl, (blk_cell BK489.out 3).trans rfl, (blk_cell BK489.out 4).trans rfl, (blk_cell BK489.out 5).trans rfl, (blk_cell BK456.out 0).trans rfl, (blk_cell BK456.out 1).trans rfl, (blk_cell BK456.out 2).trans rfl, (blk_cell BK456.out 3).trans rfl, (blk_cell BK456.out 4).trans rfl, (blk_cell BK456.out 5).trans rfl⟩ (fun hHeld => ?_)
        generalize w56.drew = w57 at HO460 HO463 HO469 HO472 HO475 HO479 HO482 HO488 HO492 HO495 BK456 BK489 HB hHeld ⊢
        refine pT 0 (some 48) ?_
        refine pT 1 (some 49) ?_
        refine pO 2 (some 50) (fun K hK => ?_)
        refine gG Try.func17 #[.agg #[.slice A0_0 l0_0.length c0_0, .slice A0_1 l0_1.length c0_1, .int .i64 a0_2, .int .i64 a0_3, .int .i64 a0_4, .slice A0_5 l0_5.length c0_5]] ?_
        with_reducible refine (laws_toDisk.calls k _ _ l0_0 _ _ l0_1 a0_2 a0_3 a0_4 _ _ l0_5 t497 t500 t503 t504 t505 t506 _ ?side1 ?side2 ?side3 ?side4 ?side5 ?side6 A23.out).mono ?_
        (case side1 => have X_ := (Kd.C_below HR0_0.out HB.out); exact TC)
        (case side2 => exact HC0_0.out)
        (case side3 => have X_ := (Kd.C_below HR0_1.out HB.out); exact TC)
        (case side4 => exact HC0_1.out)
        (case side5 => have X_ := (Kd.C_below HR0_5.out HB.out); exact TC)
        (case side6 => exact HC0_5.out)
        rintro e w58 ⟨v498, v501, v507, rfl, ho0, ho1, ho2, hb⟩
        refine ⟨_, rfl, ?_⟩
        have n0_ := aM (Kd.R_mono (Kd.R_told (Kd.R_told (Kd.R_old (by have X_ := HO460.out; exact TR) hb) (Kd.R_base ho0)) (Kd.R_base ho1)) (fun _ h_ => h_.1))
        have n1_ := aM (Kd.R_mono (Kd.R_told (Kd.R_told (Kd.R_old (by have X_ := HO463.out; exact TR) hb) (Kd.R_base ho0)) (Kd.R_base ho1)) (fun _ h_ => h_.1))
        have n2_ := aM (Kd.S_mono (Kd.S_told (Kd.S_told (Kd.S_told (Kd.S_old (by have X_ := HO469.out; exact TS) hb) (Kd.R_base ho0)) (Kd.R_base ho1)) (Kd.S_base ho2)) (fun _ h_ => h_.1))
        have n3_ := aM (Kd.R_mono (Kd.R_told (Kd.R_told (Kd.R_old (by have X_ := HO472.out; exact TR) hb) (Kd.R_base ho0)) (Kd.R_base ho1)) (fun _ h_ => h_.1))
        have n4_ := aM (Kd.R_mono (Kd.R_told (Kd.R_told (Kd.R_old (by have X_ := HO475.out; exact TR) hb) (Kd.R_base ho0)) (Kd.R_base ho1)) (fun _ h_ => h_.1))
        have n5_ := aM (Kd.R_mono (Kd.R_told (Kd.R_told (Kd.R_old (by have X_ := HO479.out; exact TR) hb) (Kd.R_base ho0)) (Kd.R_base ho1)) (fun _ h_ => h_.1))
        have n6_ := aM (Kd.R_mono (Kd.R_told (Kd.R_told (Kd.R_old (by have X_ := HO482.out; exact TR) hb) (Kd.R_base ho0)) (Kd.R_base ho1)) (fun _ h_ => h_.1))
        have n7_ := aM (Kd.S_mono (Kd.S_told (Kd.S_told (Kd.S_told (Kd.S_old (by have X_ := HO488.out; exact TS) hb) (Kd.R_base ho0)) (Kd.R_base ho1)) (Kd.S_base ho2)) (fun _ h_ => h_.1))
        have n8_ := aM (Kd.R_mono (Kd.R_told (Kd.R_told (Kd.R_old (by have X_ := HO492.out; exact TR) hb) (Kd.R_base ho0)) (Kd.R_base ho1)) (fun _ h_ => h_.1))
        have n9_ := aM (Kd.R_mono (Kd.R_told (Kd.R_told (Kd.R_old (by have X_ := HO495.out; exact TR) hb) (Kd.R_base ho0)) (Kd.R_base ho1)) (fun _ h_ => h_.1))
        have n10_ := aM (Kd.R_lower (Kd.R_new' (Kd.R_new' (Kd.R_new' (Kd.R_new' (Kd.R_new' (Kd.R_new' (Kd.R_new' (Kd.R_new' ho0 (Kd.R_lt (by have X_ := HO460.out; exact TR))) (Kd.R_lt (by have X_ := HO463.out; exact TR))) (Kd.R_lt (by have X_ := HO472.out; exact TR))) (Kd.R_lt (by have X_ := HO475.out; exact TR))) (Kd.R_lt (by have X_ := HO479.out; exact TR))) (Kd.R_lt (by have X_ := HO482.out; exact TR))) (Kd.R_lt (by have X_ := HO492.out; exact TR))) (Kd.R_lt (by have X_ := HO495.out; exact TR))) (below_size TB))
        have n11_ := aM (Kd.R_lower (Kd.R_new' (Kd.R_new' (Kd.R_new' (Kd.R_new' (Kd.R_new' (Kd.R_new' (Kd.R_new' (Kd.R_new' ho1 (Kd.R_lt (by have X_ := HO460.out; exact TR))) (Kd.R_lt (by have X_ := HO463.out; exact TR))) (Kd.R_lt (by have X_ := HO472.out; exact TR))) (Kd.R_lt (by have X_ := HO475.out; exact TR))) (Kd.R_lt (by have X_ := HO479.out; exact TR))) (Kd.R_lt (by have X_ := HO482.out; exact TR))) (Kd.R_lt (by have X_ := HO492.out; exact TR))) (Kd.R_lt (by have X_ := HO495.out; exact TR))) (below_size TB))
        have n12_ := aM (Kd.S_lower (Kd.S_new' (Kd.S_new' (Kd.S_new' (Kd.S_new' (Kd.S_new' (Kd.S_new' (Kd.S_new' (Kd.S_new' (Kd.S_new' (Kd.S_new' ho2 (Kd.R_lt (by have X_ := HO460.out; exact TR))) (Kd.R_lt (by have X_ := HO463.out; exact TR))) (Kd.S_lt (by have X_ := HO469.out; exact TS))) (Kd.R_lt (by have X_ := HO472.out; exact TR))) (Kd.R_lt (by have X_ := HO475.out; exact TR))) (Kd.R_lt (by have X_ := HO479.out; exact TR))) (Kd.R_lt (by have X_ := HO482.out; exact TR))) (Kd.S_lt (by have X_ := HO488.out; exact TS))) (Kd.R_lt (by have X_ := HO492.out; exact TR))) (Kd.R_lt (by have X_ := HO495.out; exact TR))) (below_size TB))
        have n13_ := aM (blk_below (by have X_ := BK456.out; exact TX) hb)
        have n14_ := aM (blk_below (by have X_ := BK489.out; exact TX) hb)
        have n15_ := aM (below_step TB hb)
        clear HO460
        clear HO463
        clear HO469
        clear HO472
        clear HO475
        clear HO479
        clear HO482
        clear HO488
        clear HO492
        clear HO495
        clear BK456
        clear BK489
        clear HB
        have HO460 := n0_
        have HO463 := n1_
        have HO469 := n2_
        have HO472 := n3_
        have HO475 := n4_
        have HO479 := n5_
        have HO482 := n6_
        have HO488 := n7_
        have HO492 := n8_
        have HO495 := n9_
        have HO499 := n10_
        have HO502 := n11_
        have HO508 := n12_
        have BK456 := n13_
        have BK489 := n14_
        have HB := n15_
        clear n0_ n1_ n2_ n3_ n4_ n5_ n6_ n7_ n8_ n9_ n10_ n11_ n12_ n13_ n14_ n15_
        (try clear hb)
        (try clear hb2)
        (try clear hk)
        (try clear hi)
        (try clear ho0)
        (try clear ho1)
        (try clear ho2)
        obtain ⟨Ao59, co59, eo59⟩ := Kd.R_slice HO499.out
        (first | subst eo59 | (injection eo59 with f1_ f2_ f3_; have f4_ := f1_.symm; have f5_ := f3_.symm; clear f1_ f2_ f3_; subst f4_; subst f5_))
        obtain ⟨Ao60, co60, eo60⟩ := Kd.R_slice HO502.out
        (first | subst eo60 | (injection eo60 with f1_ f2_ f3_; have f4_ := f1_.symm; have f5_ := f3_.symm; clear f1_ f2_ f3_; subst f4_; subst f5_))
        obtain ⟨Ao61, co61, eo61⟩ := Kd.S_slice HO508.out
        (first | subst eo61 | (injection eo61 with f1_ f2_ f3_; have f4_ := f1_.symm; have f5_ := f3_.symm; clear f1_ f2_ f3_; subst f4_; subst f5_))
        refine hK.out _ _ ⟨(blk_cell BK489.out 0).trans rfl, (blk_cell BK489.out 1).trans rfl, (blk_cell BK489.out 2).trans rfl, (blk_cell BK489.out 3).trans rfl, (blk_cell BK489.out 4).trans rfl, (blk_cell BK489.out 5).trans rfl, (blk_cell BK456.out 0).trans rfl, (blk_cell BK456.out 1).trans rfl, (blk_cell BK456.out 2).trans rfl, (blk_cell BK456.out 3).trans rfl, (blk_cell BK456.out 4).trans rfl, (blk_cell BK456.out 5).trans rfl⟩ (fun hHeld => ?_)
        clear hK K
        refine nR ?_
        refine pO 3 (some 51) (fun K hK => ?_)
        refine gG Try.func19 #[.agg #[.slice Ao46 t477.length co46, .slice Ao49 t480.length co49, .int .i64 t483, .int .i64 t484, .int .i64 t485, .slice Ao50 t486.length co50], .agg #[.slice Ao59 t497.length co59, .slice Ao60 t500.length co60, .int .i64 t503, .int .i64 t504, .int .i64 t505, .slice Ao61 t506.length co61]] ?_
        with_reducible refine (laws_eqDisk.calls k _ _ t477 _ _ t480 t483 t484 t485 _ _ t486 _ _ t497 _ _ t500 t503 t504 t505 _ _ t506 true _ ?side1 ?side2 ?side3 ?side4 ?side5 ?side6 ?side7 ?side8 ?side9 ?side10 ?side11 ?side12 A24.out).mono ?_
        (case side1 => have X_ := (Kd.R_reads' HO479.out).2.2; exact TC)
        (case side2 => exact (Kd.R_reads' HO479.out).2.1)
        (case side3 => have X_ := (Kd.R_reads' HO482.out).2.2; exact TC)
        (case side4 => exact (Kd.R_reads' HO482.out).2.1)
        (case side5 => have X_ := (Kd.S_reads' HO488.out).2.2; exact TC)
        (case side6 => exact (Kd.S_reads' HO488.out).2.1)
        (case side7 => have X_ := (Kd.R_reads' HO499.out).2.2; exact TC)
        (case side8 => exact (Kd.R_reads' HO499.out).2.1)
        (case side9 => have X_ := (Kd.R_reads' HO502.out).2.2; exact TC)
        (case side10 => exact (Kd.R_reads' HO502.out).2.1)
        (case side11 => have X_ := (Kd.S_reads' HO508.out).2.2; exact TC)
        (case side12 => exact (Kd.S_reads' HO508.out).2.1)
        rintro e w62 ⟨rfl, hb⟩
        refine ⟨_, rfl, ?_⟩
        have n0_ := aM (Kd.R_below (by have X_ := HO460.out; exact TR) hb)
        have n1_ := aM (Kd.R_below (by have X_ := HO463.out; exact TR) hb)
        have n2_ := aM (Kd.S_below (by have X_ := HO469.out; exact TS) hb)
        have n3_ := aM (Kd.R_below (by have X_ := HO472.out; exact TR) hb)
        have n4_ := aM (Kd.R_below (by have X_ := HO475.out; exact TR) hb)
        have n5_ := aM (Kd.R_below (by have X_ := HO479.out; exact TR) hb)
        have n6_ := aM (Kd.R_below (by have X_ := HO482.out; exact TR) hb)
        have n7_ := aM (Kd.S_below (by have X_ := HO488.out; exact TS) hb)
        have n8_ := aM (Kd.R_below (by have X_ := HO492.out; exact TR) hb)
        have n9_ := aM (Kd.R_below (by have X_ := HO495.out; exact TR) hb)
        have n10_ := aM (Kd.R_below (by have X_ := HO499.out; exact TR) hb)
        have n11_ := aM (Kd.R_below (by have X_ := HO502.out; exact TR) hb)
        have n12_ := aM (Kd.S_below (by have X_ := HO508.out; exact TS) hb)
        have n13_ := aM (blk_below (by have X_ := BK456.out; exact TX) hb)
        have n14_ := aM (blk_below (by have X_ := BK489.out; exact TX) hb)
        have n15_ := aM (below_step TB hb)
        clear HO460
        clear HO463
        clear HO469
        clear HO472
        clear HO475
        clear HO479
        clear HO482
        clear HO488
        clear HO492
        clear HO495
        clear HO499
        clear HO502
        clear HO508
        clear BK456
        clear BK489
        clear HB
        have HO460 := n0_
        have HO463 := n1_
        have HO469 := n2_
        have HO472 := n3_
        have HO475 := n4_
        have HO479 := n5_
        have HO482 := n6_
        have HO488 := n7_
        have HO492 := n8_
        have HO495 := n9_
        have HO499 := n10_
        have HO502 := n11_
        have HO508 := n12_
        have BK456 := n13_
        have BK489 := n14_
        have HB := n15_
        clear n0_ n1_ n2_ n3_ n4_ n5_ n6_ n7_ n8_ n9_ n10_ n11_ n12_ n13_ n14_ n15_
        (try clear hb)
        (try clear hb2)
        (try clear hk)
        (try clear hi)
        refine hK.out _ _ ⟨(blk_cell BK489.out 0).trans rfl, (blk_cell BK489.out 1).trans rfl, (blk_cell BK489.out 2).trans rfl, (blk_cell BK489.out 3).trans rfl, (blk_cell BK489.out 4).trans rfl, (blk_cell BK489.out 5).trans rfl, (blk_cell BK456.out 0).trans rfl, (blk_cell BK456.out 1).trans rfl, (blk_cell BK456.out 2).trans rfl, (blk_cell BK456.out 3).trans rfl, (blk_cell BK456.out 4).trans rfl, (blk_cell BK456.out 5).trans rfl⟩ (fun hHeld => ?_)
        clear hK K
        refine nR ?_
        refine pP 4 (some 52) ?_
        refine done_ (by kernel_rfl) ?_
        try go_wp2_with (first | ((with_reducible refine gate_callee (f := 21) rfl ?_); refine gL (some 55) Try.func21 #[.slice A1 l1.length c1] ?_; (with_reducible refine (laws_toByteS.calls k _ _ l1 t510 _ ?side1 ?side2 A26.out).mono ?_); (case side1 => have X_ := (Kd.C_below HR1.out HB.out); exact TC); (case side2 => exact HC1.out); rintro e w63 ⟨v511, rfl, ho0, hb⟩; refine ⟨_, rfl, ?_⟩; have HO512 := aM (Kd.R_lower (Kd.R_new' (Kd.R_new' (Kd.R_new' (Kd.R_new' (Kd.R_new' (Kd.R_new' (Kd.R_new' (Kd.R_new' (Kd.R_new' (Kd.R_new' ho0 (Kd.R_lt (by have X_ := HO460.out; exact TR))) (Kd.R_lt (by have X_ := HO463.out; exact TR))) (Kd.R_lt (by have X_ := HO472.out; exact TR))) (Kd.R_lt (by have X_ := HO475.out; exact TR))) (Kd.R_lt (by have X_ := HO479.out; exact TR))) (Kd.R_lt (by have X_ := HO482.out; exact TR))) (Kd.R_lt (by have X_ := HO492.out; exact TR))) (Kd.R_lt (by have X_ := HO495.out; exact TR))) (Kd.R_lt (by have X_ := HO499.out; exact TR))) (Kd.R_lt (by have X_ := HO502.out; exact TR))) (below_size TB)); replace HO460 := aM (Kd.R_elder' (by have X_ := HO460.out; exact TR) (Kd.R_base ho0) hb); replace HO463 := aM (Kd.R_elder' (by have X_ := HO463.out; exact TR) (Kd.R_base ho0) hb); replace HO469 := aM (Kd.S_elder' (by have X_ := HO469.out; exact TS) (Kd.R_base ho0) hb); replace HO472 := aM (Kd.R_elder' (by have X_ := HO472.out; exact TR) (Kd.R_base ho0) hb); replace HO475 := aM (Kd.R_elder' (by have X_ := HO475.out; exact TR) (Kd.R_base ho0) hb); replace HO479 := aM (Kd.R_elder' (by have X_ := HO479.out; exact TR) (Kd.R_base ho0) hb); replace HO482 := aM (Kd.R_elder' (by have X_ := HO482.out; exact TR) (Kd.R_base ho0) hb); replace HO488 := aM (Kd.S_elder' (by have X_ := HO488.out; exact TS) (Kd.R_base ho0) hb); replace HO492 := aM (Kd.R_elder' (by have X_ := HO492.out; exact TR) (Kd.R_base ho0) hb); replace HO495 := aM (Kd.R_elder' (by have X_ := HO495.out; exact TR) (Kd.R_base ho0) hb); replace HO499 := aM (Kd.R_elder' (by have X_ := HO499.out; exact TR) (Kd.R_base ho0) hb); replace HO502 := aM (Kd.R_elder' (by have X_ := HO502.out; exact TR) (Kd.R_base ho0) hb); replace HO508 := aM (Kd.S_elder' (by have X_ := HO508.out; exact TS) (Kd.R_base ho0) hb); replace BK456 := aM (blk_below (by have X_ := BK456.out; exact TX) hb); replace BK489 := aM (blk_below (by have X_ := BK489.out; exact TX) hb); replace HB := aM (below_step TB hb); clear ho0 hb; obtain ⟨Ao64, co64, eo64⟩ := Kd.R_slice HO512.out; subst eo64) | ((with_reducible refine gate_callee (f := 23) rfl ?_); refine gL (some 56) Try.func23 #[.slice Ao54 t490.length co54, .slice Ao64 t510.length co64] ?_; (with_reducible refine (laws_eqByteS.calls k _ _ t490 _ _ t510 true _ ?side1 ?side2 ?side3 ?side4 A27.out).mono ?_); (case side1 => have X_ := (Kd.R_reads' HO492.out).2.2; exact TC); (case side2 => exact (Kd.R_reads' HO492.out).2.1); (case side3 => have X_ := (Kd.R_reads' HO512.out).2.2; exact TC); (case side4 => exact (Kd.R_reads' HO512.out).2.1); rintro e w' ⟨rfl, ⟨nd, rfl⟩⟩; refine ⟨_, rfl, ?_⟩) | ((with_reducible refine gate_callee (f := 21) rfl ?_); refine gL (some 60) Try.func21 #[.slice A3 l3.length c3] ?_; (with_reducible refine (laws_toByteS.calls k _ _ l3 t514 _ ?side1 ?side2 A29.out).mono ?_); (case side1 => repeat (first | exact (Kd.C_below HR3.out TB) | (with_reducible refine Kd.C_alloc ?_ _) | (with_reducible refine Kd.C_drewN ?_ _) | (with_reducible refine Kd.C_drew ?_))); (case side2 => exact HC3.out); rintro e w65 ⟨v515, rfl, ho0, hb⟩; refine ⟨_, rfl, ?_⟩; have HO516 := aM (Kd.R_lower (Kd.R_new' (Kd.R_new' (Kd.R_new' (Kd.R_new' (Kd.R_new' (Kd.R_new' (Kd.R_new' (Kd.R_new' (Kd.R_new' (Kd.R_new' (Kd.R_new' ho0 (Kd.R_lt (by have X_ := HO460.out; exact TR))) (Kd.R_lt (by have X_ := HO463.out; exact TR))) (Kd.R_lt (by have X_ := HO472.out; exact TR))) (Kd.R_lt (by have X_ := HO475.out; exact TR))) (Kd.R_lt (by have X_ := HO479.out; exact TR))) (Kd.R_lt (by have X_ := HO482.out; exact TR))) (Kd.R_lt (by have X_ := HO492.out; exact TR))) (Kd.R_lt (by have X_ := HO495.out; exact TR))) (Kd.R_lt (by have X_ := HO499.out; exact TR))) (Kd.R_lt (by have X_ := HO502.out; exact TR))) (Kd.R_lt (by have X_ := HO512.out; exact TR))) (below_size TB)); replace HO460 := aM (Kd.R_elder' (by have X_ := HO460.out; exact TR) (Kd.R_base ho0) hb); replace HO463 := aM (Kd.R_elder' (by have X_ := HO463.out; exact TR) (Kd.R_base ho0) hb); replace HO469 := aM (Kd.S_elder' (by have X_ := HO469.out; exact TS) (Kd.R_base ho0) hb); replace HO472 := aM (Kd.R_elder' (by have X_ := HO472.out; exact TR) (Kd.R_base ho0) hb); replace HO475 := aM (Kd.R_elder' (by have X_ := HO475.out; exact TR) (Kd.R_base ho0) hb); replace HO479 := aM (Kd.R_elder' (by have X_ := HO479.out; exact TR) (Kd.R_base ho0) hb); replace HO482 := aM (Kd.R_elder' (by have X_ := HO482.out; exact TR) (Kd.R_base ho0) hb); replace HO488 := aM (Kd.S_elder' (by have X_ := HO488.out; exact TS) (Kd.R_base ho0) hb); replace HO492 := aM (Kd.R_elder' (by have X_ := HO492.out; exact TR) (Kd.R_base ho0) hb); replace HO495 := aM (Kd.R_elder' (by have X_ := HO495.out; exact TR) (Kd.R_base ho0) hb); replace HO499 := aM (Kd.R_elder' (by have X_ := HO499.out; exact TR) (Kd.R_base ho0) hb); replace HO502 := aM (Kd.R_elder' (by have X_ := HO502.out; exact TR) (Kd.R_base ho0) hb); replace HO508 := aM (Kd.S_elder' (by have X_ := HO508.out; exact TS) (Kd.R_base ho0) hb); replace HO512 := aM (Kd.R_elder' (by have X_ := HO512.out; exact TR) (Kd.R_base ho0) hb); replace BK456 := aM (blk_below (by have X_ := BK456.out; exact TX) hb); replace BK489 := aM (blk_below (by have X_ := BK489.out; exact TX) hb); replace HB := aM (below_step TB hb); clear ho0 hb; obtain ⟨Ao66, co66, eo66⟩ := Kd.R_slice HO516.out; subst eo66) | ((with_reducible refine gate_callee (f := 23) rfl ?_); refine gL (some 61) Try.func23 #[.slice Ao55 t493.length co55, .slice Ao66 t514.length co66] ?_; (with_reducible refine (laws_eqByteS.calls k _ _ t493 _ _ t514 true _ ?side1 ?side2 ?side3 ?side4 A30.out).mono ?_); (case side1 => have X_ := (Kd.R_reads' HO495.out).2.2; exact TC); (case side2 => exact (Kd.R_reads' HO495.out).2.1); (case side3 => have X_ := (Kd.R_reads' HO516.out).2.2; exact TC); (case side4 => exact (Kd.R_reads' HO516.out).2.1); rintro e w' ⟨rfl, ⟨nd, rfl⟩⟩; refine ⟨_, rfl, ?_⟩))
        go_ret
        exact ⟨by first | rfl | (simp [errW_none, errW_some] <;> rfl) | (simp [*, errW_none, errW_some] <;> rfl), TB⟩

end Go.Proofs.Ytogilihkphjjbaa.Q
