/- Functions of the program as plain Lean functions, and that a call of each comes to what its function tells. Written by a program of this seat. -/
import Derived.Test.YtlghklbjmmijpaaQ0
import Derived.Test.YtlghklbjmmijpaaQ54
namespace Go.Proofs.Ytlghklbjmmijpaa.Q
open Go.RowKit Go.Proofs.YtlghklbjmmijpaaW.PrintWords Go.Proofs.YtlghklbjmmijpaaW.PrintLast Go.Proofs.YtlghklbjmmijpaaW.PrintMore
attribute [local go_sem] max2_int min2_int max_two min_two max_three min_three max_four min_four   -- for this text's walks alone
set_option linter.unusedVariables false
set_option linter.unusedSimpArgs false

/-! ### laws_heldPutS: function 82 -/
def laws_heldPutS.l0 : Nat → List (S110) → Int → Int → Option (Int)
  | 0, _, _, _ => none
  | k + 1, x0, x1, x5 => if x5 < (x0.length : Int) then (if 0 ≤ x5 then (if ((rd_T110 x0 x5).f0) = x1 then (if ((rd_T110 x0 x5).f1) = (wrap64 (x1 + 1)) then ((laws_heldByteS.f k ((rd_T110 x0 x5).f2) (wrap64 ((wrap64 (x1 + 1)) + 1))).bind fun t1171 => (if t1171 < 0 then (some (-1)) else (if ((rd_T110 x0 x5).f3.f0) = t1171 then (if ((rd_T110 x0 x5).f3.f1) = (wrap64 (t1171 + 1)) then (if ((rd_T110 x0 x5).f3.f2) = (wrap64 ((wrap64 (t1171 + 1)) + 1)) then (laws_heldPutS.l0 k x0 (wrap64 ((wrap64 ((wrap64 (t1171 + 1)) + 1)) + 1)) (wrap64 (x5 + 1))) else (some (-1))) else (some (-1))) else (some (-1))))) else (some (-1))) else (some (-1))) else (none)) else (some x1)
def laws_heldPutS.f (k : Nat) (l0 : List (S110)) (a1 : Int) : Option (Int) := laws_heldPutS.l0 k l0 a1 0
theorem laws_heldPutS.mono_l : ∀ k, (∀ y0 y1 y2, LeO (laws_heldPutS.l0 k y0 y1 y2) (laws_heldPutS.l0 (k + 1) y0 y1 y2))
  | 0 => fun _ _ _ r h => by simp [laws_heldPutS.l0] at h
  | k + 1 => by
    have m0_ := @laws_heldByteS.mono
    have ih0 := laws_heldPutS.mono_l k
    · intro y0 y1 y2
      unfold laws_heldPutS.l0
      exact LM
theorem laws_heldPutS.mono : ∀ a0 a1 k, LeO (laws_heldPutS.f k a0 a1) (laws_heldPutS.f (k + 1) a0 a1) := by
  intro a0 a1 k
  have m0_ := @laws_heldByteS.mono
  have ih0 := laws_heldPutS.mono_l k
  unfold laws_heldPutS.f
  exact LM
set_option maxHeartbeats 40000000 in
set_option maxRecDepth 100000 in
theorem laws_heldPutS.calls (k : Nat) (A0 : Option Addr) (c0 : Nat) (l0 : List (S110)) (a1 : Int) (r : Int) (w : World) (hr0 : Kd.C k110 w A0 l0.length l0) (hc0 : l0.length ≤ c0) (h : laws_heldPutS.f k l0 a1 = some r) :
    Calls Try.prog 82 #[.slice A0 l0.length c0, .int .i64 a1] w fun e w' => e = .returned (.int .i64 r) ∧ Drawn0 w w' := by
  have HR0 := aM hr0
  have HC0 := aM hc0
  clear hr0 hc0
  have H := h
  clear h
  unfold laws_heldPutS.f at H
  have H' := aM H
  clear H
  go_enter Try.func82, Try.ntmps82
  go_wp2
  go_loopg [1, 5] k (fun kq v1 v5 w' => ∃ (x1_1 : Int) (x5_1 : Int), v1 = .int .i64 x1_1 ∧ v5 = .int .i64 x5_1 ∧ Aside0 (laws_heldPutS.l0 kq l0 x1_1 x5_1 = some r) ∧ Aside0 (kq ≤ k) ∧ Drawn0 w w')
  case atStart => exact ⟨(a1), (0), (by first | rfl | (simp; done) | (simp [*]; done)), (by first | rfl | (simp; done) | (simp [*]; done)), H', ⟨Nat.le_refl _⟩, TD⟩
  case round =>
    clear H'
    try clear p2
    obtain ⟨x1_1, x5_1, rfl, rfl, HA, HK1, ⟨m1, rfl⟩⟩ := hrel
    cases gk with
    | zero => exact absurd HA.out (by simp [laws_heldPutS.l0])
    | succ k1 =>
      have H := HA.out
      clear HA
      simp only [laws_heldPutS.l0] at H
      by_cases c3 : x5_1 < (l0.length : Int)
      · rw [if_pos c3] at H
        have c3b0 : decide (x5_1 < (l0.length : Int)) = true := decide_eq_true c3
        clear c3
        replace H := ifN H
        obtain ⟨c4, H⟩ := H
        have c4b0 : decide (0 ≤ x5_1) = true := decide_eq_true c4
        clear c4
        by_cases c5 : ((rd_T110 l0 x5_1).f0) = x1_1
        · rw [if_pos c5] at H
          have c5b0 : (((rd_T110 l0 x5_1).f0) == x1_1) = true := beq_iff_eq.mpr c5
          have c5b1 : (((rd_T110 l0 x5_1).f0) != x1_1) = false := bne_eq_false_iff_eq.mpr c5
          clear c5
          by_cases c6 : ((rd_T110 l0 x5_1).f1) = (wrap64 (x1_1 + 1))
          · rw [if_pos c6] at H
            have c6b0 : (((rd_T110 l0 x5_1).f1) == (wrap64 (x1_1 + 1))) = true := beq_iff_eq.mpr c6
            have c6b1 : (((rd_T110 l0 x5_1).f1) != (wrap64 (x1_1 + 1))) = false := bne_eq_false_iff_eq.mpr c6
            clear c6
            replace H := bE H
            obtain ⟨t1171, A7, H⟩ := H
            have p1168 : 0 ≤ (x5_1 : Int) := DT
            have q1168 : x5_1 < (l0.length : Int) := DT
            obtain ⟨ad1168, A1168_2, c1168_2, e1168, hx1168_0, hx1168_1, hx1168_2, hx1168_3, hx1168_4, hx1168_5, hl1168_2, hi1168_2⟩ := at_T110 HR0.out x5_1 p1168 q1168
            cases e1168
            have HR1168_2 := aM hi1168_2
            have HC1168_2 := aM hl1168_2
            clear hi1168_2 hl1168_2
            replace p1168 := eq_true p1168
            replace q1168 := eq_true q1168
            have p1169 : 0 ≤ (x5_1 : Int) := DT
            have q1169 : x5_1 < (l0.length : Int) := DT
            obtain ⟨ad1169, A1169_2, c1169_2, e1169, hx1169_0, hx1169_1, hx1169_2, hx1169_3, hx1169_4, hx1169_5, hl1169_2, hi1169_2⟩ := at_T110 HR0.out x5_1 p1169 q1169
            obtain rfl : ad1168 = ad1169 := (by injection e1169)
            have HR1169_2 := aM hi1169_2
            have HC1169_2 := aM hl1169_2
            clear hi1169_2 hl1169_2
            replace p1169 := eq_true p1169
            replace q1169 := eq_true q1169
            have ea_ := Option.some.inj (hx1168_2.symm.trans hx1169_2)
            injection ea_ with ea_ en_ ec_
            subst ea_
            subst ec_
            clear en_
            have p1170 : 0 ≤ (x5_1 : Int) := DT
            have q1170 : x5_1 < (l0.length : Int) := DT
            obtain ⟨ad1170, A1170_2, c1170_2, e1170, hx1170_0, hx1170_1, hx1170_2, hx1170_3, hx1170_4, hx1170_5, hl1170_2, hi1170_2⟩ := at_T110 HR0.out x5_1 p1170 q1170
            obtain rfl : ad1168 = ad1170 := (by injection e1170)
            have HR1170_2 := aM hi1170_2
            have HC1170_2 := aM hl1170_2
            clear hi1170_2 hl1170_2
            replace p1170 := eq_true p1170
            replace q1170 := eq_true q1170
            have ea_ := Option.some.inj (hx1168_2.symm.trans hx1170_2)
            injection ea_ with ea_ en_ ec_
            subst ea_
            subst ec_
            clear en_
            go_wp2_with (first | ((with_reducible refine gate_callee (f := 81) rfl ?_); (with_reducible refine gate_dst (N := 36) rfl ?_); generalize hG_ : wpList _ _ _ _ _ _ = G_))
            subst hG_
            by_cases c8 : t1171 < 0
            · rw [if_pos c8] at H
              have c8b0 : decide (t1171 < 0) = true := decide_eq_true c8
              clear c8
              obtain rfl := Option.some.inj H
              go_wp2_with (first | ((with_reducible refine gate_callee (f := 81) rfl ?_); refine gL (some 36) Try.func81 #[.slice A1168_2 ((rd_T110 l0 x5_1).f2).length c1168_2, .int .i64 (wrap64 ((wrap64 (x1_1 + 1)) + 1))] ?_; (with_reducible refine (laws_heldByteS.calls k1 _ _ ((rd_T110 l0 x5_1).f2) (wrap64 ((wrap64 (x1_1 + 1)) + 1)) t1171 _ ?side1 ?side2 A7.out).mono ?_); (case side1 => repeat (first | exact (Kd.C_below HR1170_2.out (Below.refl _ _)) | (with_reducible refine Kd.C_alloc ?_ _) | (with_reducible refine Kd.C_drewN ?_ _) | (with_reducible refine Kd.C_drew ?_))); (case side2 => exact HC1170_2.out); rintro e w' ⟨rfl, ⟨nd, rfl⟩⟩; refine ⟨_, rfl, ?_⟩))
              go_ret
              exact ⟨by first | rfl | (simp; done) | (simp [*]; done), TD⟩
            · rw [if_neg c8] at H
              have c8b0 : decide (t1171 < 0) = false := decide_eq_false c8
              clear c8
              by_cases c9 : ((rd_T110 l0 x5_1).f3.f0) = t1171
              · rw [if_pos c9] at H
                have c9b0 : (((rd_T110 l0 x5_1).f3.f0) == t1171) = true := beq_iff_eq.mpr c9
                have c9b1 : (((rd_T110 l0 x5_1).f3.f0) != t1171) = false := bne_eq_false_iff_eq.mpr c9
                clear c9
                by_cases c10 : ((rd_T110 l0 x5_1).f3.f1) = (wrap64 (t1171 + 1))
                · rw [if_pos c10] at H
                  have c10b0 : (((rd_T110 l0 x5_1).f3.f1) == (wrap64 (t1171 + 1))) = true := beq_iff_eq.mpr c10
                  have c10b1 : (((rd_T110 l0 x5_1).f3.f1) != (wrap64 (t1171 + 1))) = false := bne_eq_false_iff_eq.mpr c10
                  clear c10
                  by_cases c11 : ((rd_T110 l0 x5_1).f3.f2) = (wrap64 ((wrap64 (t1171 + 1)) + 1))
                  · rw [if_pos c11] at H
                    have c11b0 : (((rd_T110 l0 x5_1).f3.f2) == (wrap64 ((wrap64 (t1171 + 1)) + 1))) = true := beq_iff_eq.mpr c11
                    have c11b1 : (((rd_T110 l0 x5_1).f3.f2) != (wrap64 ((wrap64 (t1171 + 1)) + 1))) = false := bne_eq_false_iff_eq.mpr c11
                    clear c11
                    have H' := aM H
                    clear H
                    go_wp2_with (first | ((with_reducible refine gate_callee (f := 81) rfl ?_); refine gL (some 36) Try.func81 #[.slice A1168_2 ((rd_T110 l0 x5_1).f2).length c1168_2, .int .i64 (wrap64 ((wrap64 (x1_1 + 1)) + 1))] ?_; (with_reducible refine (laws_heldByteS.calls k1 _ _ ((rd_T110 l0 x5_1).f2) (wrap64 ((wrap64 (x1_1 + 1)) + 1)) t1171 _ ?side1 ?side2 A7.out).mono ?_); (case side1 => repeat (first | exact (Kd.C_below HR1170_2.out (Below.refl _ _)) | (with_reducible refine Kd.C_alloc ?_ _) | (with_reducible refine Kd.C_drewN ?_ _) | (with_reducible refine Kd.C_drew ?_))); (case side2 => exact HC1170_2.out); rintro e w' ⟨rfl, ⟨nd, rfl⟩⟩; refine ⟨_, rfl, ?_⟩; have p1172 : 0 ≤ (x5_1 : Int) := DT; have q1172 : x5_1 < (l0.length : Int) := DT; obtain ⟨ad1172, A1172_2, c1172_2, e1172, hx1172_0, hx1172_1, hx1172_2, hx1172_3, hx1172_4, hx1172_5, hl1172_2, hi1172_2⟩ := at_T110 HR0.out x5_1 p1172 q1172; obtain rfl : ad1168 = ad1172 := (by injection e1172); have HR1172_2 := aM hi1172_2; have HC1172_2 := aM hl1172_2; clear hi1172_2 hl1172_2; replace p1172 := eq_true p1172; replace q1172 := eq_true q1172; have p1173 : 0 ≤ (x5_1 : Int) := DT; have q1173 : x5_1 < (l0.length : Int) := DT; obtain ⟨ad1173, A1173_2, c1173_2, e1173, hx1173_0, hx1173_1, hx1173_2, hx1173_3, hx1173_4, hx1173_5, hl1173_2, hi1173_2⟩ := at_T110 HR0.out x5_1 p1173 q1173; obtain rfl : ad1168 = ad1173 := (by injection e1173); have HR1173_2 := aM hi1173_2; have HC1173_2 := aM hl1173_2; clear hi1173_2 hl1173_2; replace p1173 := eq_true p1173; replace q1173 := eq_true q1173; have ea_ := Option.some.inj (hx1172_2.symm.trans hx1173_2); injection ea_ with ea_ en_ ec_; subst ea_; subst ec_; clear en_; have p1174 : 0 ≤ (x5_1 : Int) := DT; have q1174 : x5_1 < (l0.length : Int) := DT; obtain ⟨ad1174, A1174_2, c1174_2, e1174, hx1174_0, hx1174_1, hx1174_2, hx1174_3, hx1174_4, hx1174_5, hl1174_2, hi1174_2⟩ := at_T110 HR0.out x5_1 p1174 q1174; obtain rfl : ad1168 = ad1174 := (by injection e1174); have HR1174_2 := aM hi1174_2; have HC1174_2 := aM hl1174_2; clear hi1174_2 hl1174_2; replace p1174 := eq_true p1174; replace q1174 := eq_true q1174; have ea_ := Option.some.inj (hx1172_2.symm.trans hx1174_2); injection ea_ with ea_ en_ ec_; subst ea_; subst ec_; clear en_))
                    go_roundg k1
                    case measure => have := HK1.out; omega
                    case rel => exact ⟨(wrap64 ((wrap64 ((wrap64 (t1171 + 1)) + 1)) + 1)), (wrap64 (x5_1 + 1)), (by first | rfl | (simp; done) | (simp [*]; done)), (by first | rfl | (simp; done) | (simp [*]; done)), H', ⟨by have := HK1.out; omega⟩, TD⟩
                  · rw [if_neg c11] at H
                    have c11b0 : (((rd_T110 l0 x5_1).f3.f2) == (wrap64 ((wrap64 (t1171 + 1)) + 1))) = false := beq_eq_false_iff_ne.mpr c11
                    have c11b1 : (((rd_T110 l0 x5_1).f3.f2) != (wrap64 ((wrap64 (t1171 + 1)) + 1))) = true := bne_iff_ne.mpr c11
                    obtain rfl := Option.some.inj H
                    go_wp2_with (first | ((with_reducible refine gate_callee (f := 81) rfl ?_); refine gL (some 36) Try.func81 #[.slice A1168_2 ((rd_T110 l0 x5_1).f2).length c1168_2, .int .i64 (wrap64 ((wrap64 (x1_1 + 1)) + 1))] ?_; (with_reducible refine (laws_heldByteS.calls k1 _ _ ((rd_T110 l0 x5_1).f2) (wrap64 ((wrap64 (x1_1 + 1)) + 1)) t1171 _ ?side1 ?side2 A7.out).mono ?_); (case side1 => repeat (first | exact (Kd.C_below HR1170_2.out (Below.refl _ _)) | (with_reducible refine Kd.C_alloc ?_ _) | (with_reducible refine Kd.C_drewN ?_ _) | (with_reducible refine Kd.C_drew ?_))); (case side2 => exact HC1170_2.out); rintro e w' ⟨rfl, ⟨nd, rfl⟩⟩; refine ⟨_, rfl, ?_⟩; have p1172 : 0 ≤ (x5_1 : Int) := DT; have q1172 : x5_1 < (l0.length : Int) := DT; obtain ⟨ad1172, A1172_2, c1172_2, e1172, hx1172_0, hx1172_1, hx1172_2, hx1172_3, hx1172_4, hx1172_5, hl1172_2, hi1172_2⟩ := at_T110 HR0.out x5_1 p1172 q1172; obtain rfl : ad1168 = ad1172 := (by injection e1172); have HR1172_2 := aM hi1172_2; have HC1172_2 := aM hl1172_2; clear hi1172_2 hl1172_2; replace p1172 := eq_true p1172; replace q1172 := eq_true q1172; have p1173 : 0 ≤ (x5_1 : Int) := DT; have q1173 : x5_1 < (l0.length : Int) := DT; obtain ⟨ad1173, A1173_2, c1173_2, e1173, hx1173_0, hx1173_1, hx1173_2, hx1173_3, hx1173_4, hx1173_5, hl1173_2, hi1173_2⟩ := at_T110 HR0.out x5_1 p1173 q1173; obtain rfl : ad1168 = ad1173 := (by injection e1173); have HR1173_2 := aM hi1173_2; have HC1173_2 := aM hl1173_2; clear hi1173_2 hl1173_2; replace p1173 := eq_true p1173; replace q1173 := eq_true q1173; have ea_ := Option.some.inj (hx1172_2.symm.trans hx1173_2); injection ea_ with ea_ en_ ec_; subst ea_; subst ec_; clear en_; have p1174 : 0 ≤ (x5_1 : Int) := DT; have q1174 : x5_1 < (l0.length : Int) := DT; obtain ⟨ad1174, A1174_2, c1174_2, e1174, hx1174_0, hx1174_1, hx1174_2, hx1174_3, hx1174_4, hx1174_5, hl1174_2, hi1174_2⟩ := at_T110 HR0.out x5_1 p1174 q1174; obtain rfl : ad1168 = ad1174 := (by injection e1174); have HR1174_2 := aM hi1174_2; have HC1174_2 := aM hl1174_2; clear hi1174_2 hl1174_2; replace p1174 := eq_true p1174; replace q1174 := eq_true q1174; have ea_ := Option.some.inj (hx1172_2.symm.trans hx1174_2); injection ea_ with ea_ en_ ec_; subst ea_; subst ec_; clear en_))
                    go_ret
                    exact ⟨by first | rfl | (simp; done) | (simp [*]; done), TD⟩
                · rw [if_neg c10] at H
                  have c10b0 : (((rd_T110 l0 x5_1).f3.f1) == (wrap64 (t1171 + 1))) = false := beq_eq_false_iff_ne.mpr c10
                  have c10b1 : (((rd_T110 l0 x5_1).f3.f1) != (wrap64 (t1171 + 1))) = true := bne_iff_ne.mpr c10
                  obtain rfl := Option.some.inj H
                  go_wp2_with (first | ((with_reducible refine gate_callee (f := 81) rfl ?_); refine gL (some 36) Try.func81 #[.slice A1168_2 ((rd_T110 l0 x5_1).f2).length c1168_2, .int .i64 (wrap64 ((wrap64 (x1_1 + 1)) + 1))] ?_; (with_reducible refine (laws_heldByteS.calls k1 _ _ ((rd_T110 l0 x5_1).f2) (wrap64 ((wrap64 (x1_1 + 1)) + 1)) t1171 _ ?side1 ?side2 A7.out).mono ?_); (case side1 => repeat (first | exact (Kd.C_below HR1170_2.out (Below.refl _ _)) | (with_reducible refine Kd.C_alloc ?_ _) | (with_reducible refine Kd.C_drewN ?_ _) | (with_reducible refine Kd.C_drew ?_))); (case side2 => exact HC1170_2.out); rintro e w' ⟨rfl, ⟨nd, rfl⟩⟩; refine ⟨_, rfl, ?_⟩; have p1172 : 0 ≤ (x5_1 : Int) := DT; have q1172 : x5_1 < (l0.length : Int) := DT; obtain ⟨ad1172, A1172_2, c1172_2, e1172, hx1172_0, hx1172_1, hx1172_2, hx1172_3, hx1172_4, hx1172_5, hl1172_2, hi1172_2⟩ := at_T110 HR0.out x5_1 p1172 q1172; obtain rfl : ad1168 = ad1172 := (by injection e1172); have HR1172_2 := aM hi1172_2; have HC1172_2 := aM hl1172_2; clear hi1172_2 hl1172_2; replace p1172 := eq_true p1172; replace q1172 := eq_true q1172; have p1173 : 0 ≤ (x5_1 : Int) := DT; have q1173 : x5_1 < (l0.length : Int) := DT; obtain ⟨ad1173, A1173_2, c1173_2, e1173, hx1173_0, hx1173_1, hx1173_2, hx1173_3, hx1173_4, hx1173_5, hl1173_2, hi1173_2⟩ := at_T110 HR0.out x5_1 p1173 q1173; obtain rfl : ad1168 = ad1173 := (by injection e1173); have HR1173_2 := aM hi1173_2; have HC1173_2 := aM hl1173_2; clear hi1173_2 hl1173_2; replace p1173 := eq_true p1173; replace q1173 := eq_true q1173; have ea_ := Option.some.inj (hx1172_2.symm.trans hx1173_2); injection ea_ with ea_ en_ ec_; subst ea_; subst ec_; clear en_))
                  go_ret
                  exact ⟨by first | rfl | (simp; done) | (simp [*]; done), TD⟩
              · rw [if_neg c9] at H
                have c9b0 : (((rd_T110 l0 x5_1).f3.f0) == t1171) = false := beq_eq_false_iff_ne.mpr c9
                have c9b1 : (((rd_T110 l0 x5_1).f3.f0) != t1171) = true := bne_iff_ne.mpr c9
                obtain rfl := Option.some.inj H
                go_wp2_with (first | ((with_reducible refine gate_callee (f := 81) rfl ?_); refine gL (some 36) Try.func81 #[.slice A1168_2 ((rd_T110 l0 x5_1).f2).length c1168_2, .int .i64 (wrap64 ((wrap64 (x1_1 + 1)) + 1))] ?_; (with_reducible refine (laws_heldByteS.calls k1 _ _ ((rd_T110 l0 x5_1).f2) (wrap64 ((wrap64 (x1_1 + 1)) + 1)) t1171 _ ?side1 ?side2 A7.out).mono ?_); (case side1 => repeat (first | exact (Kd.C_below HR1170_2.out (Below.refl _ _)) | (with_reducible refine Kd.C_alloc ?_ _) | (with_reducible refine Kd.C_drewN ?_ _) | (with_reducible refine Kd.C_drew ?_))); (case side2 => exact HC1170_2.out); rintro e w' ⟨rfl, ⟨nd, rfl⟩⟩; refine ⟨_, rfl, ?_⟩; have p1172 : 0 ≤ (x5_1 : Int) := DT; have q1172 : x5_1 < (l0.length : Int) := DT; obtain ⟨ad1172, A1172_2, c1172_2, e1172, hx1172_0, hx1172_1, hx1172_2, hx1172_3, hx1172_4, hx1172_5, hl1172_2, hi1172_2⟩ := at_T110 HR0.out x5_1 p1172 q1172; obtain rfl : ad1168 = ad1172 := (by injection e1172); have HR1172_2 := aM hi1172_2; have HC1172_2 := aM hl1172_2; clear hi1172_2 hl1172_2; replace p1172 := eq_true p1172; replace q1172 := eq_true q1172))
                go_ret
                exact ⟨by first | rfl | (simp; done) | (simp [*]; done), TD⟩
          · rw [if_neg c6] at H
            have c6b0 : (((rd_T110 l0 x5_1).f1) == (wrap64 (x1_1 + 1))) = false := beq_eq_false_iff_ne.mpr c6
            have c6b1 : (((rd_T110 l0 x5_1).f1) != (wrap64 (x1_1 + 1))) = true := bne_iff_ne.mpr c6
            obtain rfl := Option.some.inj H
            have p1168 : 0 ≤ (x5_1 : Int) := DT
            have q1168 : x5_1 < (l0.length : Int) := DT
            obtain ⟨ad1168, A1168_2, c1168_2, e1168, hx1168_0, hx1168_1, hx1168_2, hx1168_3, hx1168_4, hx1168_5, hl1168_2, hi1168_2⟩ := at_T110 HR0.out x5_1 p1168 q1168
            cases e1168
            have HR1168_2 := aM hi1168_2
            have HC1168_2 := aM hl1168_2
            clear hi1168_2 hl1168_2
            replace p1168 := eq_true p1168
            replace q1168 := eq_true q1168
            have p1169 : 0 ≤ (x5_1 : Int) := DT
            have q1169 : x5_1 < (l0.length : Int) := DT
            obtain ⟨ad1169, A1169_2, c1169_2, e1169, hx1169_0, hx1169_1, hx1169_2, hx1169_3, hx1169_4, hx1169_5, hl1169_2, hi1169_2⟩ := at_T110 HR0.out x5_1 p1169 q1169
            obtain rfl : ad1168 = ad1169 := (by injection e1169)
            have HR1169_2 := aM hi1169_2
            have HC1169_2 := aM hl1169_2
            clear hi1169_2 hl1169_2
            replace p1169 := eq_true p1169
            replace q1169 := eq_true q1169
            have ea_ := Option.some.inj (hx1168_2.symm.trans hx1169_2)
            injection ea_ with ea_ en_ ec_
            subst ea_
            subst ec_
            clear en_
            go_wp2
            go_ret
            exact ⟨by first | rfl | (simp; done) | (simp [*]; done), TD⟩
        · rw [if_neg c5] at H
          have c5b0 : (((rd_T110 l0 x5_1).f0) == x1_1) = false := beq_eq_false_iff_ne.mpr c5
          have c5b1 : (((rd_T110 l0 x5_1).f0) != x1_1) = true := bne_iff_ne.mpr c5
          obtain rfl := Option.some.inj H
          have p1168 : 0 ≤ (x5_1 : Int) := DT
          have q1168 : x5_1 < (l0.length : Int) := DT
          obtain ⟨ad1168, A1168_2, c1168_2, e1168, hx1168_0, hx1168_1, hx1168_2, hx1168_3, hx1168_4, hx1168_5, hl1168_2, hi1168_2⟩ := at_T110 HR0.out x5_1 p1168 q1168
          cases e1168
          have HR1168_2 := aM hi1168_2
          have HC1168_2 := aM hl1168_2
          clear hi1168_2 hl1168_2
          replace p1168 := eq_true p1168
          replace q1168 := eq_true q1168
          go_wp2
          go_ret
          exact ⟨by first | rfl | (simp; done) | (simp [*]; done), TD⟩
      · rw [if_neg c3] at H
        have c3b0 : decide (x5_1 < (l0.length : Int)) = false := decide_eq_false c3
        clear c3
        obtain rfl := Option.some.inj H
        go_wp2
        go_ret
        exact ⟨by first | rfl | (simp; done) | (simp [*]; done), TD⟩

/-! ### laws_heldDisk: function 28 -/
def laws_heldDisk.f (k : Nat) (l0_0 : List Int) (l0_1 : List Int) (a0_2 : Int) (a0_3 : Int) (a0_4 : Int) (l0_5 : List (S110)) (a1 : Int) : Option (Int) := (laws_heldByteS.f k l0_0 a1).bind fun t1176 => (if t1176 < 0 then (some (-1)) else ((laws_heldByteS.f k l0_1 t1176).bind fun t1177 => (if t1177 < 0 then (some (-1)) else ((laws_heldPutS.f k l0_5 t1177).bind fun t1178 => (if t1178 < 0 then (some (-1)) else (some t1178))))))
theorem laws_heldDisk.mono : ∀ a0 a1 a2 a3 a4 a5 a6 k, LeO (laws_heldDisk.f k a0 a1 a2 a3 a4 a5 a6) (laws_heldDisk.f (k + 1) a0 a1 a2 a3 a4 a5 a6) := by
  intro a0 a1 a2 a3 a4 a5 a6 k
  have m0_ := @laws_heldByteS.mono
  have m1_ := @laws_heldPutS.mono
  unfold laws_heldDisk.f
  exact LM
set_option maxHeartbeats 40000000 in
set_option maxRecDepth 100000 in
theorem laws_heldDisk.calls (k : Nat) (ai : Option Addr) (al : Nat) (ad : List Int) (ah : Option Addr) (ag : Nat) (ae : List Int) (an : Int) (ao : Int) (ap : Int) (ak : Option Addr) (aj : Nat) (ac : List (S110)) (a1 : Int) (r : Int) (w : World) (aC : Kd.C (Kd.int .u8) w ai ad.length ad) (aB : ad.length ≤ al) (aA : Kd.C (Kd.int .u8) w ah ae.length ae) (aq : ae.length ≤ ag) (av : Kd.C k110 w ak ac.length ac) (ar : ac.length ≤ aj) (h : laws_heldDisk.f k ad ae an ao ap ac a1 = some r) :
  Calls Try.prog 28 #[.agg #[.slice ai ad.length al, .slice ah ae.length ag, .int .i64 an, .int .i64 ao, .int .i64 ap, .slice ak ac.length aj], .int .i64 a1] w fun e w' => e = .returned (.int .i64 r) ∧ Below w.heap.size w w' := by
 have hu33 := Try.underlying33
 have aw := aM aC
 have ay := aM aB
 clear aC aB
 have az := aM aA
 have au := aM aq
 clear aA aq
 have aD := aM av
 have ax := aM ar
 clear av ar
 have HB := aM (Below.refl w.heap.size w)
 have H := h
 clear h
 unfold laws_heldDisk.f at H
 replace H := bE H
 obtain ⟨ab, A3, H⟩ := H
 go_enter Try.func28, Try.ntmps28
 go_wp2_with (first | ((with_reducible refine gate_dst (N := 2) rfl ?_); refine gBx 2 #[.slice ai ad.length al, .slice ah ae.length ag, .int .i64 an, .int .i64 ao, .int .i64 ap, .slice ak ac.length aj] 33 ?_; intro am hg w4 hbox hb; have BK1175 := aM (hbox); have GW1175 := aM ((by rw [hg]; exact (below_size TB) : w.heap.size ≤ am)); have GE1175 := aM ((by rw [hg]; exact (below_size TB) : w.heap.size ≤ am)); replace HB := aM (below_step TB hb); clear hb hbox hg; obtain ⟨hcz5_0, hcz5_1, hcz5_2, hcz5_3, hcz5_4, hcz5_5⟩ := cz6 BK1175.out; obtain ⟨hfz5_0, hfz5_1, hfz5_2, hfz5_3, hfz5_4, hfz5_5⟩ := fz6 BK1175.out) | ((with_reducible refine gate_callee (f := 81) rfl ?_); (with_reducible refine gate_dst (N := 8) rfl ?_); generalize hG_ : wpList _ _ _ _ _ _ = G_))
 subst hG_
 by_cases c6 : ab < 0
 ·rw [if_pos c6] at H
  have c6b0 : decide (ab < 0) = true := decide_eq_true c6
  clear c6
  obtain rfl := Option.some.inj H
  go_wp2_with (first | ((with_reducible refine gate_callee (f := 81) rfl ?_); refine gL (some 8) Try.func81 #[.slice ai ad.length al, .int .i64 a1] ?_; (with_reducible refine (laws_heldByteS.calls k _ _ ad a1 ab _ ?side1 ?side2 A3.out).mono ?_); (case side1 => repeat (first | exact (Kd.C_below aw.out TB) | (with_reducible refine Kd.C_alloc ?_ _) | (with_reducible refine Kd.C_drewN ?_ _) | (with_reducible refine Kd.C_drew ?_))); (case side2 => exact ay.out); rintro e w' ⟨rfl, ⟨nd, rfl⟩⟩; refine ⟨_, rfl, ?_⟩))
  go_ret
  exact ⟨by first | rfl | (simp [errW_none, errW_some] <;> rfl) | (simp [*, errW_none, errW_some] <;> rfl), TB⟩
 ·rw [if_neg c6] at H
  have c6b0 : decide (ab < 0) = false := decide_eq_false c6
  clear c6
  replace H := bE H
  obtain ⟨aa, A7, H⟩ := H
  go_wp2_with (first | ((with_reducible refine gate_callee (f := 81) rfl ?_); refine gL (some 8) Try.func81 #[.slice ai ad.length al, .int .i64 a1] ?_; (with_reducible refine (laws_heldByteS.calls k _ _ ad a1 ab _ ?side1 ?side2 A3.out).mono ?_); (case side1 => repeat (first | exact (Kd.C_below aw.out TB) | (with_reducible refine Kd.C_alloc ?_ _) | (with_reducible refine Kd.C_drewN ?_ _) | (with_reducible refine Kd.C_drew ?_))); (case side2 => exact ay.out); rintro e w' ⟨rfl, ⟨nd, rfl⟩⟩; refine ⟨_, rfl, ?_⟩; obtain ⟨hcz8_0, hcz8_1, hcz8_2, hcz8_3, hcz8_4, hcz8_5⟩ := cz6 BK1175.out; obtain ⟨hfz8_0, hfz8_1, hfz8_2, hfz8_3, hfz8_4, hfz8_5⟩ := fz6 BK1175.out) | ((with_reducible refine gate_callee (f := 81) rfl ?_); (with_reducible refine gate_dst (N := 14) rfl ?_); generalize hG_ : wpList _ _ _ _ _ _ = G_))
  subst hG_
  by_cases c9 : aa < 0
  ·rw [if_pos c9] at H
   have c9b0 : decide (aa < 0) = true := decide_eq_true c9
   clear c9
   obtain rfl := Option.some.inj H
   go_wp2_with (first | ((with_reducible refine gate_callee (f := 81) rfl ?_); refine gL (some 14) Try.func81 #[.slice ah ae.length ag, .int .i64 ab] ?_; (with_reducible refine (laws_heldByteS.calls k _ _ ae ab aa _ ?side1 ?side2 A7.out).mono ?_); (case side1 => repeat (first | exact (Kd.C_below az.out TB) | (with_reducible refine Kd.C_alloc ?_ _) | (with_reducible refine Kd.C_drewN ?_ _) | (with_reducible refine Kd.C_drew ?_))); (case side2 => exact au.out); rintro e w' ⟨rfl, ⟨nd, rfl⟩⟩; refine ⟨_, rfl, ?_⟩))
   go_ret
   exact ⟨by first | rfl | (simp [errW_none, errW_some] <;> rfl) | (simp [*, errW_none, errW_some] <;> rfl), TB⟩
  ·rw [if_neg c9] at H
   have c9b0 : decide (aa < 0) = false := decide_eq_false c9
   clear c9
   replace H := bE H
   obtain ⟨af, A10, H⟩ := H
   go_wp2_with (first | ((with_reducible refine gate_callee (f := 81) rfl ?_); refine gL (some 14) Try.func81 #[.slice ah ae.length ag, .int .i64 ab] ?_; (with_reducible refine (laws_heldByteS.calls k _ _ ae ab aa _ ?side1 ?side2 A7.out).mono ?_); (case side1 => repeat (first | exact (Kd.C_below az.out TB) | (with_reducible refine Kd.C_alloc ?_ _) | (with_reducible refine Kd.C_drewN ?_ _) | (with_reducible refine Kd.C_drew ?_))); (case side2 => exact au.out); rintro e w' ⟨rfl, ⟨nd, rfl⟩⟩; refine ⟨_, rfl, ?_⟩; obtain ⟨hcz11_0, hcz11_1, hcz11_2, hcz11_3, hcz11_4, hcz11_5⟩ := cz6 BK1175.out; obtain ⟨hfz11_0, hfz11_1, hfz11_2, hfz11_3, hfz11_4, hfz11_5⟩ := fz6 BK1175.out) | ((with_reducible refine gate_callee (f := 82) rfl ?_); (with_reducible refine gate_dst (N := 20) rfl ?_); generalize hG_ : wpList _ _ _ _ _ _ = G_))
   subst hG_
   by_cases c12 : af < 0
   ·rw [if_pos c12] at H
    have c12b0 : decide (af < 0) = true := decide_eq_true c12
    clear c12
    obtain rfl := Option.some.inj H
    go_wp2_with (first | ((with_reducible refine gate_callee (f := 82) rfl ?_); refine gL (some 20) Try.func82 #[.slice ak ac.length aj, .int .i64 aa] ?_; (with_reducible refine (laws_heldPutS.calls k _ _ ac aa af _ ?side1 ?side2 A10.out).mono ?_); (case side1 => repeat (first | exact (Kd.C_below aD.out TB) | (with_reducible refine Kd.C_alloc ?_ _) | (with_reducible refine Kd.C_drewN ?_ _) | (with_reducible refine Kd.C_drew ?_))); (case side2 => exact ax.out); rintro e w' ⟨rfl, ⟨nd, rfl⟩⟩; refine ⟨_, rfl, ?_⟩))
    go_ret
    exact ⟨by first | rfl | (simp [errW_none, errW_some] <;> rfl) | (simp [*, errW_none, errW_some] <;> rfl), TB⟩
   ·rw [if_neg c12] at H
    have c12b0 : decide (af < 0) = false := decide_eq_false c12
    clear c12
    obtain rfl := Option.some.inj H
    go_wp2_with (first | ((with_reducible refine gate_callee (f := 82) rfl ?_); refine gL (some 20) Try.func82 #[.slice ak ac.length aj, .int .i64 aa] ?_; (with_reducible refine (laws_heldPutS.calls k _ _ ac aa af _ ?side1 ?side2 A10.out).mono ?_); (case side1 => repeat (first | exact (Kd.C_below aD.out TB) | (with_reducible refine Kd.C_alloc ?_ _) | (with_reducible refine Kd.C_drewN ?_ _) | (with_reducible refine Kd.C_drew ?_))); (case side2 => exact ax.out); rintro e w' ⟨rfl, ⟨nd, rfl⟩⟩; refine ⟨_, rfl, ?_⟩))
    go_ret
    exact ⟨by first | rfl | (simp [errW_none, errW_some] <;> rfl) | (simp [*, errW_none, errW_some] <;> rfl), TB⟩

end Go.Proofs.Ytlghklbjmmijpaa.Q
