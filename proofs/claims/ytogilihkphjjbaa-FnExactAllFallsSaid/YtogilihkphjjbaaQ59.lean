/- Functions of the program as plain Lean functions, and that a call of each comes to what its function tells. Written by a program of this seat. -/
import Derived.Test.YtogilihkphjjbaaQ0
import Derived.Test.YtogilihkphjjbaaQ15
import Derived.Test.YtogilihkphjjbaaQ16
namespace Go.Proofs.Ytogilihkphjjbaa.Q
open Go.RowKit Go.Proofs.YtogilihkphjjbaaW.PrintWords Go.Proofs.YtogilihkphjjbaaW.PrintLast Go.Proofs.YtogilihkphjjbaaW.PrintMore
attribute [local go_sem] max2_int min2_int max_two min_two max_three min_three max_four min_four   -- for this text's walks alone
set_option linter.unusedVariables false
set_option linter.unusedSimpArgs false

/-! ### laws_heldDiskS: function 55 -/
def laws_heldDiskS.l0 : Nat → List (S33) → Int → Int → Option (Int)
  | 0, _, _, _ => none
  | k + 1, x0, x1, x5 => if x5 < (x0.length : Int) then (if 0 ≤ x5 then ((laws_heldByteS.f k ((rd_T33 x0 x5).f0) x1).bind fun t871 => (if t871 < 0 then (some (-1)) else ((laws_heldByteS.f k ((rd_T33 x0 x5).f1) t871).bind fun t873 => (if t873 < 0 then (some (-1)) else (if ((rd_T33 x0 x5).f2.f0) = t873 then (if ((rd_T33 x0 x5).f2.f1) = (wrap64 (t873 + 1)) then (if ((rd_T33 x0 x5).f2.f2) = (wrap64 ((wrap64 (t873 + 1)) + 1)) then ((laws_heldPutS.f k ((rd_T33 x0 x5).f3) (wrap64 ((wrap64 ((wrap64 (t873 + 1)) + 1)) + 1))).bind fun t878 => (if t878 < 0 then (some (-1)) else (laws_heldDiskS.l0 k x0 t878 (wrap64 (x5 + 1))))) else (some (-1))) else (some (-1))) else (some (-1))))))) else (none)) else (some x1)
def laws_heldDiskS.f (k : Nat) (l0 : List (S33)) (a1 : Int) : Option (Int) := laws_heldDiskS.l0 k l0 a1 0
theorem laws_heldDiskS.mono_l : ∀ k, (∀ y0 y1 y2, LeO (laws_heldDiskS.l0 k y0 y1 y2) (laws_heldDiskS.l0 (k + 1) y0 y1 y2))
  | 0 => fun _ _ _ r h => by simp [laws_heldDiskS.l0] at h
  | k + 1 => by
    have m0_ := @laws_heldByteS.mono
    have m1_ := @laws_heldPutS.mono
    have ih0 := laws_heldDiskS.mono_l k
    · intro y0 y1 y2
      unfold laws_heldDiskS.l0
      exact LM
theorem laws_heldDiskS.mono : ∀ a0 a1 k, LeO (laws_heldDiskS.f k a0 a1) (laws_heldDiskS.f (k + 1) a0 a1) := by
  intro a0 a1 k
  have m0_ := @laws_heldByteS.mono
  have m1_ := @laws_heldPutS.mono
  have ih0 := laws_heldDiskS.mono_l k
  unfold laws_heldDiskS.f
  exact LM
set_option maxHeartbeats 40000000 in
set_option maxRecDepth 100000 in
theorem laws_heldDiskS.calls (k : Nat) (A0 : Option Addr) (c0 : Nat) (l0 : List (S33)) (a1 : Int) (r : Int) (w : World) (hr0 : Kd.C k33 w A0 l0.length l0) (hc0 : l0.length ≤ c0) (h : laws_heldDiskS.f k l0 a1 = some r) :
    Calls Try.prog 55 #[.slice A0 l0.length c0, .int .i64 a1] w fun e w' => e = .returned (.int .i64 r) ∧ Drawn0 w w' := by
  have HR0 := aM hr0
  have HC0 := aM hc0
  clear hr0 hc0
  have H := h
  clear h
  unfold laws_heldDiskS.f at H
  have H' := aM H
  clear H
  go_enter Try.func55, Try.ntmps55
  go_wp2
  go_loopg [1, 5] k (fun kq v1 v5 w' => ∃ (x1_1 : Int) (x5_1 : Int), v1 = .int .i64 x1_1 ∧ v5 = .int .i64 x5_1 ∧ Aside0 (laws_heldDiskS.l0 kq l0 x1_1 x5_1 = some r) ∧ Aside0 (kq ≤ k) ∧ Drawn0 w w')
  case atStart => exact ⟨(a1), (0), (by first | rfl | (simp; done) | (simp [*]; done)), (by first | rfl | (simp; done) | (simp [*]; done)), H', ⟨Nat.le_refl _⟩, TD⟩
  case round =>
    clear H'
    try clear p2
    obtain ⟨x1_1, x5_1, rfl, rfl, HA, HK1, ⟨m1, rfl⟩⟩ := hrel
    cases gk with
    | zero => exact absurd HA.out (by simp [laws_heldDiskS.l0])
    | succ k1 =>
      have H := HA.out
      clear HA
      simp only [laws_heldDiskS.l0] at H
      by_cases c3 : x5_1 < (l0.length : Int)
      · rw [if_pos c3] at H
        have c3b0 : decide (x5_1 < (l0.length : Int)) = true := decide_eq_true c3
        clear c3
        replace H := ifN H
        obtain ⟨c4, H⟩ := H
        have c4b0 : decide (0 ≤ x5_1) = true := decide_eq_true c4
        clear c4
        replace H := bE H
        obtain ⟨t871, A5, H⟩ := H
        have p870 : 0 ≤ (x5_1 : Int) := DT
        have q870 : x5_1 < (l0.length : Int) := DT
        obtain ⟨ad870, A870_0, c870_0, A870_1, c870_1, A870_5, c870_5, e870, hx870_0, hx870_1, hx870_2, hx870_3, hx870_4, hx870_5, hl870_0, hi870_0, hl870_1, hi870_1, hl870_5, hi870_5⟩ := at_T33 HR0.out x5_1 p870 q870
        cases e870
        have HR870_0 := aM hi870_0
        have HC870_0 := aM hl870_0
        clear hi870_0 hl870_0
        have HR870_1 := aM hi870_1
        have HC870_1 := aM hl870_1
        clear hi870_1 hl870_1
        have HR870_5 := aM hi870_5
        have HC870_5 := aM hl870_5
        clear hi870_5 hl870_5
        replace p870 := eq_true p870
        replace q870 := eq_true q870
        go_wp2_with (first | ((with_reducible refine gate_callee (f := 35) rfl ?_); (with_reducible refine gate_dst (N := 18) rfl ?_); generalize hG_ : wpList _ _ _ _ _ _ = G_))
        subst hG_
        by_cases c6 : t871 < 0
        · rw [if_pos c6] at H
          have c6b0 : decide (t871 < 0) = true := decide_eq_true c6
          clear c6
          obtain rfl := Option.some.inj H
          go_wp2_with (first | ((with_reducible refine gate_callee (f := 35) rfl ?_); refine gL (some 18) Try.func35 #[.slice A870_0 ((rd_T33 l0 x5_1).f0).length c870_0, .int .i64 x1_1] ?_; (with_reducible refine (laws_heldByteS.calls k1 _ _ ((rd_T33 l0 x5_1).f0) x1_1 t871 _ ?side1 ?side2 A5.out).mono ?_); (case side1 => repeat (first | exact (Kd.C_below HR870_0.out (Below.refl _ _)) | (with_reducible refine Kd.C_alloc ?_ _) | (with_reducible refine Kd.C_drewN ?_ _) | (with_reducible refine Kd.C_drew ?_))); (case side2 => exact HC870_0.out); rintro e w' ⟨rfl, ⟨nd, rfl⟩⟩; refine ⟨_, rfl, ?_⟩))
          go_ret
          exact ⟨by first | rfl | (simp; done) | (simp [*]; done), TD⟩
        · rw [if_neg c6] at H
          have c6b0 : decide (t871 < 0) = false := decide_eq_false c6
          clear c6
          replace H := bE H
          obtain ⟨t873, A7, H⟩ := H
          go_wp2_with (first | ((with_reducible refine gate_callee (f := 35) rfl ?_); refine gL (some 18) Try.func35 #[.slice A870_0 ((rd_T33 l0 x5_1).f0).length c870_0, .int .i64 x1_1] ?_; (with_reducible refine (laws_heldByteS.calls k1 _ _ ((rd_T33 l0 x5_1).f0) x1_1 t871 _ ?side1 ?side2 A5.out).mono ?_); (case side1 => repeat (first | exact (Kd.C_below HR870_0.out (Below.refl _ _)) | (with_reducible refine Kd.C_alloc ?_ _) | (with_reducible refine Kd.C_drewN ?_ _) | (with_reducible refine Kd.C_drew ?_))); (case side2 => exact HC870_0.out); rintro e w' ⟨rfl, ⟨nd, rfl⟩⟩; refine ⟨_, rfl, ?_⟩) | ((with_reducible refine gate_callee (f := 35) rfl ?_); (with_reducible refine gate_dst (N := 27) rfl ?_); generalize hG_ : wpList _ _ _ _ _ _ = G_))
          subst hG_
          by_cases c8 : t873 < 0
          · rw [if_pos c8] at H
            have c8b0 : decide (t873 < 0) = true := decide_eq_true c8
            clear c8
            obtain rfl := Option.some.inj H
            go_wp2_with (first | ((with_reducible refine gate_callee (f := 35) rfl ?_); refine gL (some 27) Try.func35 #[.slice A870_1 ((rd_T33 l0 x5_1).f1).length c870_1, .int .i64 t871] ?_; (with_reducible refine (laws_heldByteS.calls k1 _ _ ((rd_T33 l0 x5_1).f1) t871 t873 _ ?side1 ?side2 A7.out).mono ?_); (case side1 => repeat (first | exact (Kd.C_below HR870_1.out (Below.refl _ _)) | (with_reducible refine Kd.C_alloc ?_ _) | (with_reducible refine Kd.C_drewN ?_ _) | (with_reducible refine Kd.C_drew ?_))); (case side2 => exact HC870_1.out); rintro e w' ⟨rfl, ⟨nd, rfl⟩⟩; refine ⟨_, rfl, ?_⟩))
            go_ret
            exact ⟨by first | rfl | (simp; done) | (simp [*]; done), TD⟩
          · rw [if_neg c8] at H
            have c8b0 : decide (t873 < 0) = false := decide_eq_false c8
            clear c8
            by_cases c9 : ((rd_T33 l0 x5_1).f2.f0) = t873
            · rw [if_pos c9] at H
              have c9b0 : (((rd_T33 l0 x5_1).f2.f0) == t873) = true := beq_iff_eq.mpr c9
              have c9b1 : (((rd_T33 l0 x5_1).f2.f0) != t873) = false := bne_eq_false_iff_eq.mpr c9
              clear c9
              by_cases c10 : ((rd_T33 l0 x5_1).f2.f1) = (wrap64 (t873 + 1))
              · rw [if_pos c10] at H
                have c10b0 : (((rd_T33 l0 x5_1).f2.f1) == (wrap64 (t873 + 1))) = true := beq_iff_eq.mpr c10
                have c10b1 : (((rd_T33 l0 x5_1).f2.f1) != (wrap64 (t873 + 1))) = false := bne_eq_false_iff_eq.mpr c10
                clear c10
                by_cases c11 : ((rd_T33 l0 x5_1).f2.f2) = (wrap64 ((wrap64 (t873 + 1)) + 1))
                · rw [if_pos c11] at H
                  have c11b0 : (((rd_T33 l0 x5_1).f2.f2) == (wrap64 ((wrap64 (t873 + 1)) + 1))) = true := beq_iff_eq.mpr c11
                  have c11b1 : (((rd_T33 l0 x5_1).f2.f2) != (wrap64 ((wrap64 (t873 + 1)) + 1))) = false := bne_eq_false_iff_eq.mpr c11
                  clear c11
                  replace H := bE H
                  obtain ⟨t878, A12, H⟩ := H
                  go_wp2_with (first | ((with_reducible refine gate_callee (f := 35) rfl ?_); refine gL (some 27) Try.func35 #[.slice A870_1 ((rd_T33 l0 x5_1).f1).length c870_1, .int .i64 t871] ?_; (with_reducible refine (laws_heldByteS.calls k1 _ _ ((rd_T33 l0 x5_1).f1) t871 t873 _ ?side1 ?side2 A7.out).mono ?_); (case side1 => repeat (first | exact (Kd.C_below HR870_1.out (Below.refl _ _)) | (with_reducible refine Kd.C_alloc ?_ _) | (with_reducible refine Kd.C_drewN ?_ _) | (with_reducible refine Kd.C_drew ?_))); (case side2 => exact HC870_1.out); rintro e w' ⟨rfl, ⟨nd, rfl⟩⟩; refine ⟨_, rfl, ?_⟩) | ((with_reducible refine gate_callee (f := 65) rfl ?_); (with_reducible refine gate_dst (N := 66) rfl ?_); generalize hG_ : wpList _ _ _ _ _ _ = G_))
                  subst hG_
                  by_cases c13 : t878 < 0
                  · rw [if_pos c13] at H
                    have c13b0 : decide (t878 < 0) = true := decide_eq_true c13
                    clear c13
                    obtain rfl := Option.some.inj H
                    go_wp2_with (first | ((with_reducible refine gate_callee (f := 65) rfl ?_); refine gL (some 66) Try.func65 #[.slice A870_5 ((rd_T33 l0 x5_1).f3).length c870_5, .int .i64 (wrap64 ((wrap64 ((wrap64 (t873 + 1)) + 1)) + 1))] ?_; (with_reducible refine (laws_heldPutS.calls k1 _ _ ((rd_T33 l0 x5_1).f3) (wrap64 ((wrap64 ((wrap64 (t873 + 1)) + 1)) + 1)) t878 _ ?side1 ?side2 A12.out).mono ?_); (case side1 => repeat (first | exact (Kd.C_below HR870_5.out (Below.refl _ _)) | (with_reducible refine Kd.C_alloc ?_ _) | (with_reducible refine Kd.C_drewN ?_ _) | (with_reducible refine Kd.C_drew ?_))); (case side2 => exact HC870_5.out); rintro e w' ⟨rfl, ⟨nd, rfl⟩⟩; refine ⟨_, rfl, ?_⟩))
                    go_ret
                    exact ⟨by first | rfl | (simp; done) | (simp [*]; done), TD⟩
                  · rw [if_neg c13] at H
                    have c13b0 : decide (t878 < 0) = false := decide_eq_false c13
                    clear c13
                    have H' := aM H
                    clear H
                    go_wp2_with (first | ((with_reducible refine gate_callee (f := 65) rfl ?_); refine gL (some 66) Try.func65 #[.slice A870_5 ((rd_T33 l0 x5_1).f3).length c870_5, .int .i64 (wrap64 ((wrap64 ((wrap64 (t873 + 1)) + 1)) + 1))] ?_; (with_reducible refine (laws_heldPutS.calls k1 _ _ ((rd_T33 l0 x5_1).f3) (wrap64 ((wrap64 ((wrap64 (t873 + 1)) + 1)) + 1)) t878 _ ?side1 ?side2 A12.out).mono ?_); (case side1 => repeat (first | exact (Kd.C_below HR870_5.out (Below.refl _ _)) | (with_reducible refine Kd.C_alloc ?_ _) | (with_reducible refine Kd.C_drewN ?_ _) | (with_reducible refine Kd.C_drew ?_))); (case side2 => exact HC870_5.out); rintro e w' ⟨rfl, ⟨nd, rfl⟩⟩; refine ⟨_, rfl, ?_⟩))
                    go_roundg k1
                    case measure => have := HK1.out; omega
                    case rel => exact ⟨(t878), (wrap64 (x5_1 + 1)), (by first | rfl | (simp; done) | (simp [*]; done)), (by first | rfl | (simp; done) | (simp [*]; done)), H', ⟨by have := HK1.out; omega⟩, TD⟩
                · rw [if_neg c11] at H
                  have c11b0 : (((rd_T33 l0 x5_1).f2.f2) == (wrap64 ((wrap64 (t873 + 1)) + 1))) = false := beq_eq_false_iff_ne.mpr c11
                  have c11b1 : (((rd_T33 l0 x5_1).f2.f2) != (wrap64 ((wrap64 (t873 + 1)) + 1))) = true := bne_iff_ne.mpr c11
                  obtain rfl := Option.some.inj H
                  go_wp2_with (first | ((with_reducible refine gate_callee (f := 35) rfl ?_); refine gL (some 27) Try.func35 #[.slice A870_1 ((rd_T33 l0 x5_1).f1).length c870_1, .int .i64 t871] ?_; (with_reducible refine (laws_heldByteS.calls k1 _ _ ((rd_T33 l0 x5_1).f1) t871 t873 _ ?side1 ?side2 A7.out).mono ?_); (case side1 => repeat (first | exact (Kd.C_below HR870_1.out (Below.refl _ _)) | (with_reducible refine Kd.C_alloc ?_ _) | (with_reducible refine Kd.C_drewN ?_ _) | (with_reducible refine Kd.C_drew ?_))); (case side2 => exact HC870_1.out); rintro e w' ⟨rfl, ⟨nd, rfl⟩⟩; refine ⟨_, rfl, ?_⟩))
                  go_ret
                  exact ⟨by first | rfl | (simp; done) | (simp [*]; done), TD⟩
              · rw [if_neg c10] at H
                have c10b0 : (((rd_T33 l0 x5_1).f2.f1) == (wrap64 (t873 + 1))) = false := beq_eq_false_iff_ne.mpr c10
                have c10b1 : (((rd_T33 l0 x5_1).f2.f1) != (wrap64 (t873 + 1))) = true := bne_iff_ne.mpr c10
                obtain rfl := Option.some.inj H
                go_wp2_with (first | ((with_reducible refine gate_callee (f := 35) rfl ?_); refine gL (some 27) Try.func35 #[.slice A870_1 ((rd_T33 l0 x5_1).f1).length c870_1, .int .i64 t871] ?_; (with_reducible refine (laws_heldByteS.calls k1 _ _ ((rd_T33 l0 x5_1).f1) t871 t873 _ ?side1 ?side2 A7.out).mono ?_); (case side1 => repeat (first | exact (Kd.C_below HR870_1.out (Below.refl _ _)) | (with_reducible refine Kd.C_alloc ?_ _) | (with_reducible refine Kd.C_drewN ?_ _) | (with_reducible refine Kd.C_drew ?_))); (case side2 => exact HC870_1.out); rintro e w' ⟨rfl, ⟨nd, rfl⟩⟩; refine ⟨_, rfl, ?_⟩))
                go_ret
                exact ⟨by first | rfl | (simp; done) | (simp [*]; done), TD⟩
            · rw [if_neg c9] at H
              have c9b0 : (((rd_T33 l0 x5_1).f2.f0) == t873) = false := beq_eq_false_iff_ne.mpr c9
              have c9b1 : (((rd_T33 l0 x5_1).f2.f0) != t873) = true := bne_iff_ne.mpr c9
              obtain rfl := Option.some.inj H
              go_wp2_with (first | ((with_reducible refine gate_callee (f := 35) rfl ?_); refine gL (some 27) Try.func35 #[.slice A870_1 ((rd_T33 l0 x5_1).f1).length c870_1, .int .i64 t871] ?_; (with_reducible refine (laws_heldByteS.calls k1 _ _ ((rd_T33 l0 x5_1).f1) t871 t873 _ ?side1 ?side2 A7.out).mono ?_); (case side1 => repeat (first | exact (Kd.C_below HR870_1.out (Below.refl _ _)) | (with_reducible refine Kd.C_alloc ?_ _) | (with_reducible refine Kd.C_drewN ?_ _) | (with_reducible refine Kd.C_drew ?_))); (case side2 => exact HC870_1.out); rintro e w' ⟨rfl, ⟨nd, rfl⟩⟩; refine ⟨_, rfl, ?_⟩))
              go_ret
              exact ⟨by first | rfl | (simp; done) | (simp [*]; done), TD⟩
      · rw [if_neg c3] at H
        have c3b0 : decide (x5_1 < (l0.length : Int)) = false := decide_eq_false c3
        clear c3
        obtain rfl := Option.some.inj H
        go_wp2
        go_ret
        exact ⟨by first | rfl | (simp; done) | (simp [*]; done), TD⟩

end Go.Proofs.Ytogilihkphjjbaa.Q
