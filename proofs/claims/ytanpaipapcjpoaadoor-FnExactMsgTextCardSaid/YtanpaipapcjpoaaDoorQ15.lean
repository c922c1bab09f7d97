/- Functions of the program as plain Lean functions, and that a call of each comes to what its function tells. Written by a program of this seat. -/
import Derived.Test.YtanpaipapcjpoaaDoorQ0
import Derived.Test.YtanpaipapcjpoaaDoorQ14
namespace Go.Proofs.YtanpaipapcjpoaaDoor.Q
open Go.RowKit Go.Proofs.YtanpaipapcjpoaaDoorW.PrintWords Go.Proofs.YtanpaipapcjpoaaDoorW.PrintLast Go.Proofs.YtanpaipapcjpoaaDoorW.PrintMore
attribute [local go_sem] max2_int min2_int max_two min_two max_three min_three max_four min_four   -- for this text's walks alone
set_option linter.unusedVariables false
set_option linter.unusedSimpArgs false

/-! ### laws_eqMsg: function 8 -/
def laws_eqMsg.f (k : Nat) (a0_0 : Int) (a0_1 : Int) (a0_2 : Int) (a0_3 : Int) (a0_4 : Int) (l0_5 : List (S61)) (a0_6 : Int) (a0_7 : Int) (a0_8 : Int) (l0_9 : List Int) (a1_0 : Int) (a1_1 : Int) (a1_2 : Int) (a1_3 : Int) (a1_4 : Int) (l1_5 : List (S61)) (a1_6 : Int) (a1_7 : Int) (a1_8 : Int) (l1_9 : List Int) : Option (Bool) := if a0_0 = a1_0 then (if a0_1 = a1_1 then ((laws_eqManifest.f k a0_2 a0_3 a0_4 l0_5 a1_2 a1_3 a1_4 l1_5).bind fun t294 => (if t294 = true then (if a0_6 = a1_6 then (if a0_7 = a1_7 then (if a0_8 = a1_8 then ((laws_eqByteS.f k l0_9 l1_9).bind fun t295 => (if t295 = true then (some true) else (some false))) else (some false)) else (some false)) else (some false)) else (some false))) else (some false)) else (some false)
theorem laws_eqMsg.mono : ∀ a0 a1 a2 a3 a4 a5 a6 a7 a8 a9 a10 a11 a12 a13 a14 a15 a16 a17 a18 a19 k, LeO (laws_eqMsg.f k a0 a1 a2 a3 a4 a5 a6 a7 a8 a9 a10 a11 a12 a13 a14 a15 a16 a17 a18 a19) (laws_eqMsg.f (k + 1) a0 a1 a2 a3 a4 a5 a6 a7 a8 a9 a10 a11 a12 a13 a14 a15 a16 a17 a18 a19) := by
  intro a0 a1 a2 a3 a4 a5 a6 a7 a8 a9 a10 a11 a12 a13 a14 a15 a16 a17 a18 a19 k
  have m0_ := @laws_eqByteS.mono
  have m1_ := @laws_eqManifest.mono
  unfold laws_eqMsg.f
  exact LM
set_option maxHeartbeats 40000000 in
set_option maxRecDepth 100000 in
theorem laws_eqMsg.calls (k : Nat) (a0_0 : Int) (a0_1 : Int) (a0_2 : Int) (a0_3 : Int) (a0_4 : Int) (A0_5 : Option Addr) (c0_5 : Nat) (l0_5 : List (S61)) (a0_6 : Int) (a0_7 : Int) (a0_8 : Int) (A0_9 : Option Addr) (c0_9 : Nat) (l0_9 : List Int) (a1_0 : Int) (a1_1 : Int) (a1_2 : Int) (a1_3 : Int) (a1_4 : Int) (A1_5 : Option Addr) (c1_5 : Nat) (l1_5 : List (S61)) (a1_6 : Int) (a1_7 : Int) (a1_8 : Int) (A1_9 : Option Addr) (c1_9 : Nat) (l1_9 : List Int) (r : Bool) (w : World) (hr0_5 : Kd.C k61 w A0_5 l0_5.length l0_5) (hc0_5 : l0_5.length ≤ c0_5) (hr0_9 : Kd.C (Kd.int .u8) w A0_9 l0_9.length l0_9) (hc0_9 : l0_9.length ≤ c0_9) (hr1_5 : Kd.C k61 w A1_5 l1_5.length l1_5) (hc1_5 : l1_5.length ≤ c1_5) (hr1_9 : Kd.C (Kd.int .u8) w A1_9 l1_9.length l1_9) (hc1_9 : l1_9.length ≤ c1_9) (h : laws_eqMsg.f k a0_0 a0_1 a0_2 a0_3 a0_4 l0_5 a0_6 a0_7 a0_8 l0_9 a1_0 a1_1 a1_2 a1_3 a1_4 l1_5 a1_6 a1_7 a1_8 l1_9 = some r) :
    Calls Tryd.prog 8 #[.agg #[.int .i64 a0_0, .int .i64 a0_1, .int .i64 a0_2, .int .i64 a0_3, .int .i64 a0_4, .slice A0_5 l0_5.length c0_5, .int .i64 a0_6, .int .i64 a0_7, .int .i64 a0_8, .slice A0_9 l0_9.length c0_9], .agg #[.int .i64 a1_0, .int .i64 a1_1, .int .i64 a1_2, .int .i64 a1_3, .int .i64 a1_4, .slice A1_5 l1_5.length c1_5, .int .i64 a1_6, .int .i64 a1_7, .int .i64 a1_8, .slice A1_9 l1_9.length c1_9]] w fun e w' => e = .returned (.bool r) ∧ Below w.heap.size w w' := by
  have hu34 := Tryd.underlying34
  have hu32 := Tryd.underlying32
  have HR0_5 := aM hr0_5
  have HC0_5 := aM hc0_5
  clear hr0_5 hc0_5
  have HR0_9 := aM hr0_9
  have HC0_9 := aM hc0_9
  clear hr0_9 hc0_9
  have HR1_5 := aM hr1_5
  have HC1_5 := aM hc1_5
  clear hr1_5 hc1_5
  have HR1_9 := aM hr1_9
  have HC1_9 := aM hc1_9
  clear hr1_9 hc1_9
  have HB := aM (Below.refl w.heap.size w)
  have H := h
  clear h
  unfold laws_eqMsg.f at H
  by_cases c3 : a0_0 = a1_0
  · rw [if_pos c3] at H
    have c3b0 : (a0_0 == a1_0) = true := beq_iff_eq.mpr c3
    have c3b1 : (a0_0 != a1_0) = false := bne_eq_false_iff_eq.mpr c3
    clear c3
    by_cases c4 : a0_1 = a1_1
    · rw [if_pos c4] at H
      have c4b0 : (a0_1 == a1_1) = true := beq_iff_eq.mpr c4
      have c4b1 : (a0_1 != a1_1) = false := bne_eq_false_iff_eq.mpr c4
      clear c4
      replace H := bE H
      obtain ⟨t294, A5, H⟩ := H
      go_enter Tryd.func8, Tryd.ntmps8
      go_wp2_with (first | ((with_reducible refine gate_dst (N := 2) rfl ?_); refine gBx 2 #[.int .i64 a0_0, .int .i64 a0_1, .int .i64 a0_2, .int .i64 a0_3, .int .i64 a0_4, .slice A0_5 l0_5.length c0_5, .int .i64 a0_6, .int .i64 a0_7, .int .i64 a0_8, .slice A0_9 l0_9.length c0_9] 34 ?_; intro gb292 hg w7 hbox hb; have BK292 := aM (hbox); have GW292 := aM ((by rw [hg]; exact (below_size TB) : w.heap.size ≤ gb292)); have GE292 := aM ((by rw [hg]; exact (below_size TB) : w.heap.size ≤ gb292)); replace HB := aM (below_step TB hb); clear hb hbox hg) | ((with_reducible refine gate_dst (N := 3) rfl ?_); refine gBx 3 #[.int .i64 a1_0, .int .i64 a1_1, .int .i64 a1_2, .int .i64 a1_3, .int .i64 a1_4, .slice A1_5 l1_5.length c1_5, .int .i64 a1_6, .int .i64 a1_7, .int .i64 a1_8, .slice A1_9 l1_9.length c1_9] 34 ?_; intro gb293 hg w8 hbox hb; have BK293 := aM (hbox); have GW293 := aM ((by rw [hg]; exact (below_size TB) : w.heap.size ≤ gb293)); have GE293 := aM ((by rw [hg]; exact (below_size TB) : w.heap.size ≤ gb293)); have NB292_293 := aM ((by rw [hg]; exact Nat.ne_of_lt (blk_lt (by have X_ := BK292.out; exact TX)) : gb292 ≠ gb293)); have NB293_292 := aM ((by rw [hg]; exact Nat.ne_of_gt (blk_lt (by have X_ := BK292.out; exact TX)) : gb293 ≠ gb292)); replace BK292 := aM (blk_below (by have X_ := BK292.out; exact TX) hb); replace HB := aM (below_step TB hb); clear hb hbox hg; have hnb9 := NB292_293.out; have hnc9 := NB293_292.out; obtain ⟨hcz10_0, hcz10_1, hcz10_2, hcz10_3, hcz10_4, hcz10_5, hcz10_6, hcz10_7, hcz10_8, hcz10_9⟩ := cz10 BK292.out; obtain ⟨hfz10_0, hfz10_1, hfz10_2, hfz10_3, hfz10_4, hfz10_5, hfz10_6, hfz10_7, hfz10_8, hfz10_9⟩ := fz10 BK292.out; obtain ⟨hcz11_0, hcz11_1, hcz11_2, hcz11_3, hcz11_4, hcz11_5, hcz11_6, hcz11_7, hcz11_8, hcz11_9⟩ := cz10 BK293.out; obtain ⟨hfz11_0, hfz11_1, hfz11_2, hfz11_3, hfz11_4, hfz11_5, hfz11_6, hfz11_7, hfz11_8, hfz11_9⟩ := fz10 BK293.out) | ((with_reducible refine gate_callee (f := 19) rfl ?_); refine gL (some 19) Tryd.func19 #[.agg #[.int .i64 a0_2, .int .i64 a0_3, .int .i64 a0_4, .slice A0_5 l0_5.length c0_5], .agg #[.int .i64 a1_2, .int .i64 a1_3, .int .i64 a1_4, .slice A1_5 l1_5.length c1_5]] ?_; (with_reducible refine (laws_eqManifest.calls k a0_2 a0_3 a0_4 _ _ l0_5 a1_2 a1_3 a1_4 _ _ l1_5 t294 _ ?side1 ?side2 ?side3 ?side4 A5.out).mono ?_); (case side1 => have X_ := (Kd.C_below HR0_5.out HB.out); exact TC); (case side2 => exact HC0_5.out); (case side3 => have X_ := (Kd.C_below HR1_5.out HB.out); exact TC); (case side4 => exact HC1_5.out); rintro e w12 ⟨rfl, hb⟩; refine ⟨_, rfl, ?_⟩; replace BK292 := aM (blk_below (by have X_ := BK292.out; exact TX) hb); replace BK293 := aM (blk_below (by have X_ := BK293.out; exact TX) hb); replace HB := aM (below_step TB hb); clear hb) | ((with_reducible refine gate_dst (N := 20) rfl ?_); generalize hG_ : wpList _ _ _ _ _ _ = G_))
      subst hG_
      by_cases c13 : t294 = true
      · subst c13
        replace H := ifT H
        by_cases c14 : a0_6 = a1_6
        · rw [if_pos c14] at H
          have c14b0 : (a0_6 == a1_6) = true := beq_iff_eq.mpr c14
          have c14b1 : (a0_6 != a1_6) = false := bne_eq_false_iff_eq.mpr c14
          clear c14
          by_cases c15 : a0_7 = a1_7
          · rw [if_pos c15] at H
            have c15b0 : (a0_7 == a1_7) = true := beq_iff_eq.mpr c15
            have c15b1 : (a0_7 != a1_7) = false := bne_eq_false_iff_eq.mpr c15
            clear c15
            by_cases c16 : a0_8 = a1_8
            · rw [if_pos c16] at H
              have c16b0 : (a0_8 == a1_8) = true := beq_iff_eq.mpr c16
              have c16b1 : (a0_8 != a1_8) = false := bne_eq_false_iff_eq.mpr c16
              clear c16
              replace H := bE H
              obtain ⟨t295, A17, H⟩ := H
              by_cases c18 : t295 = true
              · subst c18
                replace H := ifT H
                obtain rfl := Option.some.inj H
                have hnb19 := NB292_293.out
                have hnc19 := NB293_292.out
                obtain ⟨hcz20_0, hcz20_1, hcz20_2, hcz20_3, hcz20_4, hcz20_5, hcz20_6, hcz20_7, hcz20_8, hcz20_9⟩ := cz10 BK292.out
                obtain ⟨hfz20_0, hfz20_1, hfz20_2, hfz20_3, hfz20_4, hfz20_5, hfz20_6, hfz20_7, hfz20_8, hfz20_9⟩ := fz10 BK292.out
                obtain ⟨hcz21_0, hcz21_1, hcz21_2, hcz21_3, hcz21_4, hcz21_5, hcz21_6, hcz21_7, hcz21_8, hcz21_9⟩ := cz10 BK293.out
                obtain ⟨hfz21_0, hfz21_1, hfz21_2, hfz21_3, hfz21_4, hfz21_5, hfz21_6, hfz21_7, hfz21_8, hfz21_9⟩ := fz10 BK293.out
                go_wp2_with (first | ((with_reducible refine gate_callee (f := 20) rfl ?_); refine gL (some 40) Tryd.func20 #[.slice A0_9 l0_9.length c0_9, .slice A1_9 l1_9.length c1_9] ?_; (with_reducible refine (laws_eqByteS.calls k _ _ l0_9 _ _ l1_9 true _ ?side1 ?side2 ?side3 ?side4 A17.out).mono ?_); (case side1 => repeat (first | exact (Kd.C_below HR0_9.out TB) | (with_reducible refine Kd.C_alloc ?_ _) | (with_reducible refine Kd.C_drewN ?_ _) | (with_reducible refine Kd.C_drew ?_))); (case side2 => exact HC0_9.out); (case side3 => repeat (first | exact (Kd.C_below HR1_9.out TB) | (with_reducible refine Kd.C_alloc ?_ _) | (with_reducible refine Kd.C_drewN ?_ _) | (with_reducible refine Kd.C_drew ?_))); (case side4 => exact HC1_9.out); rintro e w' ⟨rfl, ⟨nd, rfl⟩⟩; refine ⟨_, rfl, ?_⟩))
                go_ret
                exact ⟨by first | rfl | (simp [errW_none, errW_some] <;> rfl) | (simp [*, errW_none, errW_some] <;> rfl), TB⟩
              · replace c18 := Bool.eq_false_iff.mpr c18
                subst c18
                replace H := ifF H
                obtain rfl := Option.some.inj H
                have hnb22 := NB292_293.out
                have hnc22 := NB293_292.out
                obtain ⟨hcz23_0, hcz23_1, hcz23_2, hcz23_3, hcz23_4, hcz23_5, hcz23_6, hcz23_7, hcz23_8, hcz23_9⟩ := cz10 BK292.out
                obtain ⟨hfz23_0, hfz23_1, hfz23_2, hfz23_3, hfz23_4, hfz23_5, hfz23_6, hfz23_7, hfz23_8, hfz23_9⟩ := fz10 BK292.out
                obtain ⟨hcz24_0, hcz24_1, hcz24_2, hcz24_3, hcz24_4, hcz24_5, hcz24_6, hcz24_7, hcz24_8, hcz24_9⟩ := cz10 BK293.out
                obtain ⟨hfz24_0, hfz24_1, hfz24_2, hfz24_3, hfz24_4, hfz24_5, hfz24_6, hfz24_7, hfz24_8, hfz24_9⟩ := fz10 BK293.out
                go_wp2_with (first | ((with_reducible refine gate_callee (f := 20) rfl ?_); refine gL (some 40) Tryd.func20 #[.slice A0_9 l0_9.length c0_9, .slice A1_9 l1_9.length c1_9] ?_; (with_reducible refine (laws_eqByteS.calls k _ _ l0_9 _ _ l1_9 false _ ?side1 ?side2 ?side3 ?side4 A17.out).mono ?_); (case side1 => repeat (first | exact (Kd.C_below HR0_9.out TB) | (with_reducible refine Kd.C_alloc ?_ _) | (with_reducible refine Kd.C_drewN ?_ _) | (with_reducible refine Kd.C_drew ?_))); (case side2 => exact HC0_9.out); (case side3 => repeat (first | exact (Kd.C_below HR1_9.out TB) | (with_reducible refine Kd.C_alloc ?_ _) | (with_reducible refine Kd.C_drewN ?_ _) | (with_reducible refine Kd.C_drew ?_))); (case side4 => exact HC1_9.out); rintro e w' ⟨rfl, ⟨nd, rfl⟩⟩; refine ⟨_, rfl, ?_⟩))
                go_ret
                exact ⟨by first | rfl | (simp [errW_none, errW_some] <;> rfl) | (simp [*, errW_none, errW_some] <;> rfl), TB⟩
            · rw [if_neg c16] at H
              have c16b0 : (a0_8 == a1_8) = false := beq_eq_false_iff_ne.mpr c16
              have c16b1 : (a0_8 != a1_8) = true := bne_iff_ne.mpr c16
              obtain rfl := Option.some.inj H
              have hnb25 := NB292_293.out
              have hnc25 := NB293_292.out
              obtain ⟨hcz26_0, hcz26_1, hcz26_2, hcz26_3, hcz26_4, hcz26_5, hcz26_6, hcz26_7, hcz26_8, hcz26_9⟩ := cz10 BK292.out
              obtain ⟨hfz26_0, hfz26_1, hfz26_2, hfz26_3, hfz26_4, hfz26_5, hfz26_6, hfz26_7, hfz26_8, hfz26_9⟩ := fz10 BK292.out
              obtain ⟨hcz27_0, hcz27_1, hcz27_2, hcz27_3, hcz27_4, hcz27_5, hcz27_6, hcz27_7, hcz27_8, hcz27_9⟩ := cz10 BK293.out
              obtain ⟨hfz27_0, hfz27_1, hfz27_2, hfz27_3, hfz27_4, hfz27_5, hfz27_6, hfz27_7, hfz27_8, hfz27_9⟩ := fz10 BK293.out
              go_wp2
              go_ret
              exact ⟨by first | rfl | (simp [errW_none, errW_some] <;> rfl) | (simp [*, errW_none, errW_some] <;> rfl), TB⟩
          · rw [if_neg c15] at H
            have c15b0 : (a0_7 == a1_7) = false := beq_eq_false_iff_ne.mpr c15
            have c15b1 : (a0_7 != a1_7) = true := bne_iff_ne.mpr c15
            obtain rfl := Option.some.inj H
            have hnb28 := NB292_293.out
            have hnc28 := NB293_292.out
            obtain ⟨hcz29_0, hcz29_1, hcz29_2, hcz29_3, hcz29_4, hcz29_5, hcz29_6, hcz29_7, hcz29_8, hcz29_9⟩ := cz10 BK292.out
            obtain ⟨hfz29_0, hfz29_1, hfz29_2, hfz29_3, hfz29_4, hfz29_5, hfz29_6, hfz29_7, hfz29_8, hfz29_9⟩ := fz10 BK292.out
            obtain ⟨hcz30_0, hcz30_1, hcz30_2, hcz30_3, hcz30_4, hcz30_5, hcz30_6, hcz30_7, hcz30_8, hcz30_9⟩ := cz10 BK293.out
            obtain ⟨hfz30_0, hfz30_1, hfz30_2, hfz30_3, hfz30_4, hfz30_5, hfz30_6, hfz30_7, hfz30_8, hfz30_9⟩ := fz10 BK293.out
            go_wp2
            go_ret
            exact ⟨by first | rfl | (simp [errW_none, errW_some] <;> rfl) | (simp [*, errW_none, errW_some] <;> rfl), TB⟩
        · rw [if_neg c14] at H
          have c14b0 : (a0_6 == a1_6) = false := beq_eq_false_iff_ne.mpr c14
          have c14b1 : (a0_6 != a1_6) = true := bne_iff_ne.mpr c14
          obtain rfl := Option.some.inj H
          have hnb31 := NB292_293.out
          have hnc31 := NB293_292.out
          obtain ⟨hcz32_0, hcz32_1, hcz32_2, hcz32_3, hcz32_4, hcz32_5, hcz32_6, hcz32_7, hcz32_8, hcz32_9⟩ := cz10 BK292.out
          obtain ⟨hfz32_0, hfz32_1, hfz32_2, hfz32_3, hfz32_4, hfz32_5, hfz32_6, hfz32_7, hfz32_8, hfz32_9⟩ := fz10 BK292.out
          obtain ⟨hcz33_0, hcz33_1, hcz33_2, hcz33_3, hcz33_4, hcz33_5, hcz33_6, hcz33_7, hcz33_8, hcz33_9⟩ := cz10 BK293.out
          obtain ⟨hfz33_0, hfz33_1, hfz33_2, hfz33_3, hfz33_4, hfz33_5, hfz33_6, hfz33_7, hfz33_8, hfz33_9⟩ := fz10 BK293.out
          go_wp2
          go_ret
          exact ⟨by first | rfl | (simp [errW_none, errW_some] <;> rfl) | (simp [*, errW_none, errW_some] <;> rfl), TB⟩
      · replace c13 := Bool.eq_false_iff.mpr c13
        subst c13
        replace H := ifF H
        obtain rfl := Option.some.inj H
        go_wp2
        go_ret
        exact ⟨by first | rfl | (simp [errW_none, errW_some] <;> rfl) | (simp [*, errW_none, errW_some] <;> rfl), TB⟩
    · rw [if_neg c4] at H
      have c4b0 : (a0_1 == a1_1) = false := beq_eq_false_iff_ne.mpr c4
      have c4b1 : (a0_1 != a1_1) = true := bne_iff_ne.mpr c4
      obtain rfl := Option.some.inj H
      go_enter Tryd.func8, Tryd.ntmps8
      go_wp2_with (first | ((with_reducible refine gate_dst (N := 2) rfl ?_); refine gBx 2 #[.int .i64 a0_0, .int .i64 a0_1, .int .i64 a0_2, .int .i64 a0_3, .int .i64 a0_4, .slice A0_5 l0_5.length c0_5, .int .i64 a0_6, .int .i64 a0_7, .int .i64 a0_8, .slice A0_9 l0_9.length c0_9] 34 ?_; intro gb292 hg w34 hbox hb; have BK292 := aM (hbox); have GW292 := aM ((by rw [hg]; exact (below_size TB) : w.heap.size ≤ gb292)); have GE292 := aM ((by rw [hg]; exact (below_size TB) : w.heap.size ≤ gb292)); replace HB := aM (below_step TB hb); clear hb hbox hg) | ((with_reducible refine gate_dst (N := 3) rfl ?_); refine gBx 3 #[.int .i64 a1_0, .int .i64 a1_1, .int .i64 a1_2, .int .i64 a1_3, .int .i64 a1_4, .slice A1_5 l1_5.length c1_5, .int .i64 a1_6, .int .i64 a1_7, .int .i64 a1_8, .slice A1_9 l1_9.length c1_9] 34 ?_; intro gb293 hg w35 hbox hb; have BK293 := aM (hbox); have GW293 := aM ((by rw [hg]; exact (below_size TB) : w.heap.size ≤ gb293)); have GE293 := aM ((by rw [hg]; exact (below_size TB) : w.heap.size ≤ gb293)); have NB292_293 := aM ((by rw [hg]; exact Nat.ne_of_lt (blk_lt (by have X_ := BK292.out; exact TX)) : gb292 ≠ gb293)); have NB293_292 := aM ((by rw [hg]; exact Nat.ne_of_gt (blk_lt (by have X_ := BK292.out; exact TX)) : gb293 ≠ gb292)); replace BK292 := aM (blk_below (by have X_ := BK292.out; exact TX) hb); replace HB := aM (below_step TB hb); clear hb hbox hg; have hnb36 := NB292_293.out; have hnc36 := NB293_292.out; obtain ⟨hcz37_0, hcz37_1, hcz37_2, hcz37_3, hcz37_4, hcz37_5, hcz37_6, hcz37_7, hcz37_8, hcz37_9⟩ := cz10 BK292.out; obtain ⟨hfz37_0, hfz37_1, hfz37_2, hfz37_3, hfz37_4, hfz37_5, hfz37_6, hfz37_7, hfz37_8, hfz37_9⟩ := fz10 BK292.out; obtain ⟨hcz38_0, hcz38_1, hcz38_2, hcz38_3, hcz38_4, hcz38_5, hcz38_6, hcz38_7, hcz38_8, hcz38_9⟩ := cz10 BK293.out; obtain ⟨hfz38_0, hfz38_1, hfz38_2, hfz38_3, hfz38_4, hfz38_5, hfz38_6, hfz38_7, hfz38_8, hfz38_9⟩ := fz10 BK293.out))
      go_ret
      exact ⟨by first | rfl | (simp [errW_none, errW_some] <;> rfl) | (simp [*, errW_none, errW_some] <;> rfl), TB⟩
  · rw [if_neg c3] at H
    have c3b0 : (a0_0 == a1_0) = false := beq_eq_false_iff_ne.mpr c3
    have c3b1 : (a0_0 != a1_0) = true := bne_iff_ne.mpr c3
    obtain rfl := Option.some.inj H
    go_enter Tryd.func8, Tryd.ntmps8
    go_wp2_with (first | ((with_reducible refine gate_dst (N := 2) rfl ?_); refine gBx 2 #[.int .i64 a0_0, .int .i64 a0_1, .int .i64 a0_2, .int .i64 a0_3, .int .i64 a0_4, .slice A0_5 l0_5.length c0_5, .int .i64 a0_6, .int .i64 a0_7, .int .i64 a0_8, .slice A0_9 l0_9.length c0_9] 34 ?_; intro gb292 hg w39 hbox hb; have BK292 := aM (hbox); have GW292 := aM ((by rw [hg]; exact (below_size TB) : w.heap.size ≤ gb292)); have GE292 := aM ((by rw [hg]; exact (below_size TB) : w.heap.size ≤ gb292)); replace HB := aM (below_step TB hb); clear hb hbox hg) | ((with_reducible refine gate_dst (N := 3) rfl ?_); refine gBx 3 #[.int .i64 a1_0, .int .i64 a1_1, .int .i64 a1_2, .int .i64 a1_3, .int .i64 a1_4, .slice A1_5 l1_5.length c1_5, .int .i64 a1_6, .int .i64 a1_7, .int .i64 a1_8, .slice A1_9 l1_9.length c1_9] 34 ?_; intro gb293 hg w40 hbox hb; have BK293 := aM (hbox); have GW293 := aM ((by rw [hg]; exact (below_size TB) : w.heap.size ≤ gb293)); have GE293 := aM ((by rw [hg]; exact (below_size TB) : w.heap.size ≤ gb293)); have NB292_293 := aM ((by rw [hg]; exact Nat.ne_of_lt (blk_lt (by have X_ := BK292.out; exact TX)) : gb292 ≠ gb293)); have NB293_292 := aM ((by rw [hg]; exact Nat.ne_of_gt (blk_lt (by have X_ := BK292.out; exact TX)) : gb293 ≠ gb292)); replace BK292 := aM (blk_below (by have X_ := BK292.out; exact TX) hb); replace HB := aM (below_step TB hb); clear hb hbox hg; have hnb41 := NB292_293.out; have hnc41 := NB293_292.out; obtain ⟨hcz42_0, hcz42_1, hcz42_2, hcz42_3, hcz42_4, hcz42_5, hcz42_6, hcz42_7, hcz42_8, hcz42_9⟩ := cz10 BK292.out; obtain ⟨hfz42_0, hfz42_1, hfz42_2, hfz42_3, hfz42_4, hfz42_5, hfz42_6, hfz42_7, hfz42_8, hfz42_9⟩ := fz10 BK292.out; obtain ⟨hcz43_0, hcz43_1, hcz43_2, hcz43_3, hcz43_4, hcz43_5, hcz43_6, hcz43_7, hcz43_8, hcz43_9⟩ := cz10 BK293.out; obtain ⟨hfz43_0, hfz43_1, hfz43_2, hfz43_3, hfz43_4, hfz43_5, hfz43_6, hfz43_7, hfz43_8, hfz43_9⟩ := fz10 BK293.out))
    go_ret
    exact ⟨by first | rfl | (simp [errW_none, errW_some] <;> rfl) | (simp [*, errW_none, errW_some] <;> rfl), TB⟩

end Go.Proofs.YtanpaipapcjpoaaDoor.Q
