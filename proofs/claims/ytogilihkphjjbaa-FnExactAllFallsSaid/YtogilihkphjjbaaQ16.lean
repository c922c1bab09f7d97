/- Functions of the program as plain Lean functions, and that a call of each comes to what its function tells. Written by a program of this seat. -/
import Derived.Test.YtogilihkphjjbaaQ0
import Derived.Test.YtogilihkphjjbaaQ15
namespace Go.Proofs.Ytogilihkphjjbaa.Q
open Go.RowKit Go.Proofs.YtogilihkphjjbaaW.PrintWords Go.Proofs.YtogilihkphjjbaaW.PrintLast Go.Proofs.YtogilihkphjjbaaW.PrintMore
attribute [local go_sem] max2_int min2_int max_two min_two max_three min_three max_four min_four   -- for this text's walks alone
set_option linter.unusedVariables false
set_option linter.unusedSimpArgs false

/-! ### laws_heldPutS: function 65 -/
def laws_heldPutS.l0 : Nat → List (S55) → Int → Int → Option (Int)
  | 0, _, _, _ => none
  | k + 1, x0, x1, x5 => if x5 < (x0.length : Int) then (if 0 ≤ x5 then (if ((rd_T55 x0 x5).f0) = x1 then (if ((rd_T55 x0 x5).f1) = (wrap64 (x1 + 1)) then ((laws_heldByteS.f k ((rd_T55 x0 x5).f2) (wrap64 ((wrap64 (x1 + 1)) + 1))).bind fun t234 => (if t234 < 0 then (some (-1)) else (if ((rd_T55 x0 x5).f3.f0) = t234 then (if ((rd_T55 x0 x5).f3.f1) = (wrap64 (t234 + 1)) then (if ((rd_T55 x0 x5).f3.f2) = (wrap64 ((wrap64 (t234 + 1)) + 1)) then (laws_heldPutS.l0 k x0 (wrap64 ((wrap64 ((wrap64 (t234 + 1)) + 1)) + 1)) (wrap64 (x5 + 1))) else (some (-1))) else (some (-1))) else (some (-1))))) else (some (-1))) else (some (-1))) else (none)) else (some x1)
def laws_heldPutS.f (k : Nat) (l0 : List (S55)) (a1 : Int) : Option (Int) := laws_heldPutS.l0 k l0 a1 0
theorem laws_heldPutS.mono_l : ∀ k, (∀ y0 y1 y2, LeO (laws_heldPutS.l0 k y0 y1 y2) (laws_heldPutS.l0 (k + 1) y0 y1 y2))
  | 0 => fun _ _ _ r h => by simp [laws_heldPutS.l0] at h
  | k + 1 => by
    have m0_ := @laws_heldByteS.mono
    have ih0 := laws_heldPutS.mono_l k
    · intro y0 y1 y2
      unfold laws_heldPutS.l0
      exact LM
theorem laws_heldPutS.mono : ∀ a0 a1 k, LeO (laws_heldPutS.f k a0 a1) (laws_heldPutS.f (k + 1) a0 a1) := by
  intro a0 a1 k
  have m0_ := @laws_heldByteS.mono
  have ih0 := laws_heldPutS.mono_l k
  unfold laws_heldPutS.f
  exact LM
set_option maxHeartbeats 40000000 in
set_option maxRecDepth 100000 in
theorem laws_heldPutS.calls (k : Nat) (A0 : Option Addr) (c0 : Nat) (l0 : List (S55)) (a1 : Int) (r : Int) (w : World) (hr0 : Kd.C k55 w A0 l0.length l0) (hc0 : l0.length ≤ c0) (h : laws_heldPutS.f k l0 a1 = some r) :
  Calls Try.prog 65 #[.slice A0 l0.length c0, .int .i64 a1] w fun e w' => e = .returned (.int .i64 r) ∧ Drawn0 w w' := by
 have HR0 := aM hr0
 have HC0 := aM hc0
 clear hr0 hc0
 have H := h
 clear h
 unfold laws_heldPutS.f at H
 have H' := aM H
 clear H
 go_enter Try.func65, Try.ntmps65
 go_wp2
 go_loopg [1, 5] k (fun kq v1 v5 w' => ∃ (ac : Int) (aa : Int), v1 = .int .i64 ac ∧ v5 = .int .i64 aa ∧ Aside0 (laws_heldPutS.l0 kq l0 ac aa = some r) ∧ Aside0 (kq ≤ k) ∧ Drawn0 w w')
 case atStart => exact ⟨(a1), (0), (by first | rfl | (simp; done) | (simp [*]; done)), (by first | rfl | (simp; done) | (simp [*]; done)), H', ⟨Nat.le_refl _⟩, TD⟩
 case round =>
  clear H'
  try clear p2
  obtain ⟨ac, aa, rfl, rfl, HA, HK1, ⟨m1, rfl⟩⟩ := hrel
  cases gk with
  | zero => exact absurd HA.out (by simp [laws_heldPutS.l0])
  | succ k1 =>
   have H := HA.out
   clear HA
   simp only [laws_heldPutS.l0] at H
   by_cases c3 : aa < (l0.length : Int)
   ·rw [if_pos c3] at H
    have c3b0 : decide (aa < (l0.length : Int)) = true := decide_eq_true c3
    clear c3
    replace H := ifN H
    obtain ⟨c4, H⟩ := H
    have c4b0 : decide (0 ≤ aa) = true := decide_eq_true c4
    clear c4
    by_cases c5 : ((rd_T55 l0 aa).f0) = ac
    ·rw [if_pos c5] at H
     have c5b0 : (((rd_T55 l0 aa).f0) == ac) = true := beq_iff_eq.mpr c5
     have c5b1 : (((rd_T55 l0 aa).f0) != ac) = false := bne_eq_false_iff_eq.mpr c5
     clear c5
     by_cases c6 : ((rd_T55 l0 aa).f1) = (wrap64 (ac + 1))
     ·rw [if_pos c6] at H
      have c6b0 : (((rd_T55 l0 aa).f1) == (wrap64 (ac + 1))) = true := beq_iff_eq.mpr c6
      have c6b1 : (((rd_T55 l0 aa).f1) != (wrap64 (ac + 1))) = false := bne_eq_false_iff_eq.mpr c6
      clear c6
      replace H := bE H
      obtain ⟨ab, A7, H⟩ := H
      have aj : 0 ≤ (aa : Int) := DT
      have ah : aa < (l0.length : Int) := DT
      obtain ⟨ad, ag, ai, au, az, aB, an, aC, ax, aD, af, ae⟩ := at_T55 HR0.out aa aj ah
      cases au
      have ay := aM ae
      have aA := aM af
      clear ae af
      replace aj := eq_true aj
      replace ah := eq_true ah
      have aq : 0 ≤ (aa : Int) := DT
      have ap : aa < (l0.length : Int) := DT
      obtain ⟨aE, aS, aR, aF, aO, aP, ar, aN, aK, aQ, ak, am⟩ := at_T55 HR0.out aa aq ap
      obtain rfl : ad = aE := (by injection aF)
      have aI := aM am
      have aL := aM ak
      clear am ak
      replace aq := eq_true aq
      replace ap := eq_true ap
      have ea_ := Option.some.inj (an.symm.trans ar)
      injection ea_ with ea_ en_ ec_
      subst ea_
      subst ec_
      clear en_
      have aH : 0 ≤ (aa : Int) := DT
      have aG : aa < (l0.length : Int) := DT
      obtain ⟨ad233, A233_2, c233_2, e233, hx233_0, hx233_1, aJ, hx233_3, hx233_4, hx233_5, av, aw⟩ := at_T55 HR0.out aa aH aG
      obtain rfl : ad = ad233 := (by injection e233)
      have al := aM aw
      have ao := aM av
      clear aw av
      replace aH := eq_true aH
      replace aG := eq_true aG
      have ea_ := Option.some.inj (an.symm.trans aJ)
      injection ea_ with ea_ en_ ec_
      subst ea_
      subst ec_
      clear en_
      go_wp2_with (first | ((with_reducible refine gate_callee (f := 35) rfl ?_); (with_reducible refine gate_dst (N := 36) rfl ?_); generalize hG_ : wpList _ _ _ _ _ _ = G_))
      subst hG_
      by_cases c8 : ab < 0
      ·rw [if_pos c8] at H
       have c8b0 : decide (ab < 0) = true := decide_eq_true c8
       clear c8
       obtain rfl := Option.some.inj H
       go_wp2_with (first | ((with_reducible refine gate_callee (f := 35) rfl ?_); refine gL (some 36) Try.func35 #[.slice ag ((rd_T55 l0 aa).f2).length ai, .int .i64 (wrap64 ((wrap64 (ac + 1)) + 1))] ?_; (with_reducible refine (laws_heldByteS.calls k1 _ _ ((rd_T55 l0 aa).f2) (wrap64 ((wrap64 (ac + 1)) + 1)) ab _ ?side1 ?side2 A7.out).mono ?_); (case side1 => repeat (first | exact (Kd.C_below al.out (Below.refl _ _)) | (with_reducible refine Kd.C_alloc ?_ _) | (with_reducible refine Kd.C_drewN ?_ _) | (with_reducible refine Kd.C_drew ?_))); (case side2 => exact ao.out); rintro e w' ⟨rfl, ⟨nd, rfl⟩⟩; refine ⟨_, rfl, ?_⟩))
       go_ret
       exact ⟨by first | rfl | (simp; done) | (simp [*]; done), TD⟩
      ·rw [if_neg c8] at H
       have c8b0 : decide (ab < 0) = false := decide_eq_false c8
       clear c8
       by_cases c9 : ((rd_T55 l0 aa).f3.f0) = ab
       ·rw [if_pos c9] at H
        have c9b0 : (((rd_T55 l0 aa).f3.f0) == ab) = true := beq_iff_eq.mpr c9
        have c9b1 : (((rd_T55 l0 aa).f3.f0) != ab) = false := bne_eq_false_iff_eq.mpr c9
        clear c9
        by_cases c10 : ((rd_T55 l0 aa).f3.f1) = (wrap64 (ab + 1))
        ·rw [if_pos c10] at H
         have c10b0 : (((rd_T55 l0 aa).f3.f1) == (wrap64 (ab + 1))) = true := beq_iff_eq.mpr c10
         have c10b1 : (((rd_T55 l0 aa).f3.f1) != (wrap64 (ab + 1))) = false := bne_eq_false_iff_eq.mpr c10
         clear c10
         by_cases c11 : ((rd_T55 l0 aa).f3.f2) = (wrap64 ((wrap64 (ab + 1)) + 1))
         ·rw [if_pos c11] at H
          have c11b0 : (((rd_T55 l0 aa).f3.f2) == (wrap64 ((wrap64 (ab + 1)) + 1))) = true := beq_iff_eq.mpr c11
          have c11b1 : (((rd_T55 l0 aa).f3.f2) != (wrap64 ((wrap64 (ab + 1)) + 1))) = false := bne_eq_false_iff_eq.mpr c11
          clear c11
          have H' := aM H
          clear H
          go_wp2_with (first | ((with_reducible refine gate_callee (f := 35) rfl ?_); refine gL (some 36) Try.func35 #[.slice ag ((rd_T55 l0 aa).f2).length ai, .int .i64 (wrap64 ((wrap64 (ac + 1)) + 1))] ?_; (with_reducible refine (laws_heldByteS.calls k1 _ _ ((rd_T55 l0 aa).f2) (wrap64 ((wrap64 (ac + 1)) + 1)) ab _ ?side1 ?side2 A7.out).mono ?_); (case side1 => repeat (first | exact (Kd.C_below al.out (Below.refl _ _)) | (with_reducible refine Kd.C_alloc ?_ _) | (with_reducible refine Kd.C_drewN ?_ _) | (with_reducible refine Kd.C_drew ?_))); (case side2 => exact ao.out); rintro e w' ⟨rfl, ⟨nd, rfl⟩⟩; refine ⟨_, rfl, ?_⟩; have p235 : 0 ≤ (aa : Int) := DT; have q235 : aa < (l0.length : Int) := DT; obtain ⟨ad235, A235_2, c235_2, e235, hx235_0, hx235_1, hx235_2, hx235_3, hx235_4, hx235_5, hl235_2, hi235_2⟩ := at_T55 HR0.out aa p235 q235; obtain rfl : ad = ad235 := (by injection e235); have HR235_2 := aM hi235_2; have HC235_2 := aM hl235_2; clear hi235_2 hl235_2; replace p235 := eq_true p235; replace q235 := eq_true q235; have p236 : 0 ≤ (aa : Int) := DT; have q236 : aa < (l0.length : Int) := DT; obtain ⟨ad236, A236_2, c236_2, e236, hx236_0, hx236_1, hx236_2, hx236_3, hx236_4, hx236_5, hl236_2, hi236_2⟩ := at_T55 HR0.out aa p236 q236; obtain rfl : ad = ad236 := (by injection e236); have HR236_2 := aM hi236_2; have HC236_2 := aM hl236_2; clear hi236_2 hl236_2; replace p236 := eq_true p236; replace q236 := eq_true q236; have ea_ := Option.some.inj (hx235_2.symm.trans hx236_2); injection ea_ with ea_ en_ ec_; subst ea_; subst ec_; clear en_; have p237 : 0 ≤ (aa : Int) := DT; have q237 : aa < (l0.length : Int) := DT; obtain ⟨ad237, A237_2, c237_2, e237, hx237_0, hx237_1, hx237_2, hx237_3, hx237_4, hx237_5, hl237_2, hi237_2⟩ := at_T55 HR0.out aa p237 q237; obtain rfl : ad = ad237 := (by injection e237); have HR237_2 := aM hi237_2; have HC237_2 := aM hl237_2; clear hi237_2 hl237_2; replace p237 := eq_true p237; replace q237 := eq_true q237; have ea_ := Option.some.inj (hx235_2.symm.trans hx237_2); injection ea_ with ea_ en_ ec_; subst ea_; subst ec_; clear en_))
          go_roundg k1
          case measure => have := HK1.out; omega
          case rel => exact ⟨(wrap64 ((wrap64 ((wrap64 (ab + 1)) + 1)) + 1)), (wrap64 (aa + 1)), (by first | rfl | (simp; done) | (simp [*]; done)), (by first | rfl | (simp; done) | (simp [*]; done)), H', ⟨by have := HK1.out; omega⟩, TD⟩
         ·rw [if_neg c11] at H
          have c11b0 : (((rd_T55 l0 aa).f3.f2) == (wrap64 ((wrap64 (ab + 1)) + 1))) = false := beq_eq_false_iff_ne.mpr c11
          have c11b1 : (((rd_T55 l0 aa).f3.f2) != (wrap64 ((wrap64 (ab + 1)) + 1))) = true := bne_iff_ne.mpr c11
          obtain rfl := Option.some.inj H
          go_wp2_with (first | ((with_reducible refine gate_callee (f := 35) rfl ?_); refine gL (some 36) Try.func35 #[.slice ag ((rd_T55 l0 aa).f2).length ai, .int .i64 (wrap64 ((wrap64 (ac + 1)) + 1))] ?_; (with_reducible refine (laws_heldByteS.calls k1 _ _ ((rd_T55 l0 aa).f2) (wrap64 ((wrap64 (ac + 1)) + 1)) ab _ ?side1 ?side2 A7.out).mono ?_); (case side1 => repeat (first | exact (Kd.C_below al.out (Below.refl _ _)) | (with_reducible refine Kd.C_alloc ?_ _) | (with_reducible refine Kd.C_drewN ?_ _) | (with_reducible refine Kd.C_drew ?_))); (case side2 => exact ao.out); rintro e w' ⟨rfl, ⟨nd, rfl⟩⟩; refine ⟨_, rfl, ?_⟩; have p235 : 0 ≤ (aa : Int) := DT; have q235 : aa < (l0.length : Int) := DT; obtain ⟨ad235, A235_2, c235_2, e235, hx235_0, hx235_1, hx235_2, hx235_3, hx235_4, hx235_5, hl235_2, hi235_2⟩ := at_T55 HR0.out aa p235 q235; obtain rfl : ad = ad235 := (by injection e235); have HR235_2 := aM hi235_2; have HC235_2 := aM hl235_2; clear hi235_2 hl235_2; replace p235 := eq_true p235; replace q235 := eq_true q235; have p236 : 0 ≤ (aa : Int) := DT; have q236 : aa < (l0.length : Int) := DT; obtain ⟨ad236, A236_2, c236_2, e236, hx236_0, hx236_1, hx236_2, hx236_3, hx236_4, hx236_5, hl236_2, hi236_2⟩ := at_T55 HR0.out aa p236 q236; obtain rfl : ad = ad236 := (by injection e236); have HR236_2 := aM hi236_2; have HC236_2 := aM hl236_2; clear hi236_2 hl236_2; replace p236 := eq_true p236; replace q236 := eq_true q236; have ea_ := Option.some.inj (hx235_2.symm.trans hx236_2); injection ea_ with ea_ en_ ec_; subst ea_; subst ec_; clear en_; have p237 : 0 ≤ (aa : Int) := DT; have q237 : aa < (l0.length : Int) := DT; obtain ⟨ad237, A237_2, c237_2, e237, hx237_0, hx237_1, hx237_2, hx237_3, hx237_4, hx237_5, hl237_2, hi237_2⟩ := at_T55 HR0.out aa p237 q237; obtain rfl : ad = ad237 := (by injection e237); have HR237_2 := aM hi237_2; have HC237_2 := aM hl237_2; clear hi237_2 hl237_2; replace p237 := eq_true p237; replace q237 := eq_true q237; have ea_ := Option.some.inj (hx235_2.symm.trans hx237_2); injection ea_ with ea_ en_ ec_; subst ea_; subst ec_; clear en_))
          go_ret
          exact ⟨by first | rfl | (simp; done) | (simp [*]; done), TD⟩
        ·rw [if_neg c10] at H
         have c10b0 : (((rd_T55 l0 aa).f3.f1) == (wrap64 (ab + 1))) = false := beq_eq_false_iff_ne.mpr c10
         have c10b1 : (((rd_T55 l0 aa).f3.f1) != (wrap64 (ab + 1))) = true := bne_iff_ne.mpr c10
         obtain rfl := Option.some.inj H
         go_wp2_with (first | ((with_reducible refine gate_callee (f := 35) rfl ?_); refine gL (some 36) Try.func35 #[.slice ag ((rd_T55 l0 aa).f2).length ai, .int .i64 (wrap64 ((wrap64 (ac + 1)) + 1))] ?_; (with_reducible refine (laws_heldByteS.calls k1 _ _ ((rd_T55 l0 aa).f2) (wrap64 ((wrap64 (ac + 1)) + 1)) ab _ ?side1 ?side2 A7.out).mono ?_); (case side1 => repeat (first | exact (Kd.C_below al.out (Below.refl _ _)) | (with_reducible refine Kd.C_alloc ?_ _) | (with_reducible refine Kd.C_drewN ?_ _) | (with_reducible refine Kd.C_drew ?_))); (case side2 => exact ao.out); rintro e w' ⟨rfl, ⟨nd, rfl⟩⟩; refine ⟨_, rfl, ?_⟩; have p235 : 0 ≤ (aa : Int) := DT; have q235 : aa < (l0.length : Int) := DT; obtain ⟨ad235, A235_2, c235_2, e235, hx235_0, hx235_1, hx235_2, hx235_3, hx235_4, hx235_5, hl235_2, hi235_2⟩ := at_T55 HR0.out aa p235 q235; obtain rfl : ad = ad235 := (by injection e235); have HR235_2 := aM hi235_2; have HC235_2 := aM hl235_2; clear hi235_2 hl235_2; replace p235 := eq_true p235; replace q235 := eq_true q235; have p236 : 0 ≤ (aa : Int) := DT; have q236 : aa < (l0.length : Int) := DT; obtain ⟨ad236, A236_2, c236_2, e236, hx236_0, hx236_1, hx236_2, hx236_3, hx236_4, hx236_5, hl236_2, hi236_2⟩ := at_T55 HR0.out aa p236 q236; obtain rfl : ad = ad236 := (by injection e236); have HR236_2 := aM hi236_2; have HC236_2 := aM hl236_2; clear hi236_2 hl236_2; replace p236 := eq_true p236; replace q236 := eq_true q236; have ea_ := Option.some.inj (hx235_2.symm.trans hx236_2); injection ea_ with ea_ en_ ec_; subst ea_; subst ec_; clear en_))
         go_ret
         exact ⟨by first | rfl | (simp; done) | (simp [*]; done), TD⟩
       ·rw [if_neg c9] at H
        have c9b0 : (((rd_T55 l0 aa).f3.f0) == ab) = false := beq_eq_false_iff_ne.mpr c9
        have c9b1 : (((rd_T55 l0 aa).f3.f0) != ab) = true := bne_iff_ne.mpr c9
        obtain rfl := Option.some.inj H
        go_wp2_with (first | ((with_reducible refine gate_callee (f := 35) rfl ?_); refine gL (some 36) Try.func35 #[.slice ag ((rd_T55 l0 aa).f2).length ai, .int .i64 (wrap64 ((wrap64 (ac + 1)) + 1))] ?_; (with_reducible refine (laws_heldByteS.calls k1 _ _ ((rd_T55 l0 aa).f2) (wrap64 ((wrap64 (ac + 1)) + 1)) ab _ ?side1 ?side2 A7.out).mono ?_); (case side1 => repeat (first | exact (Kd.C_below al.out (Below.refl _ _)) | (with_reducible refine Kd.C_alloc ?_ _) | (with_reducible refine Kd.C_drewN ?_ _) | (with_reducible refine Kd.C_drew ?_))); (case side2 => exact ao.out); rintro e w' ⟨rfl, ⟨nd, rfl⟩⟩; refine ⟨_, rfl, ?_⟩; have p235 : 0 ≤ (aa : Int) := DT; have q235 : aa < (l0.length : Int) := DT; obtain ⟨ad235, A235_2, c235_2, e235, hx235_0, hx235_1, hx235_2, hx235_3, hx235_4, hx235_5, hl235_2, hi235_2⟩ := at_T55 HR0.out aa p235 q235; obtain rfl : ad = ad235 := (by injection e235); have HR235_2 := aM hi235_2; have HC235_2 := aM hl235_2; clear hi235_2 hl235_2; replace p235 := eq_true p235; replace q235 := eq_true q235))
        go_ret
        exact ⟨by first | rfl | (simp; done) | (simp [*]; done), TD⟩
     ·rw [if_neg c6] at H
      have c6b0 : (((rd_T55 l0 aa).f1) == (wrap64 (ac + 1))) = false := beq_eq_false_iff_ne.mpr c6
      have c6b1 : (((rd_T55 l0 aa).f1) != (wrap64 (ac + 1))) = true := bne_iff_ne.mpr c6
      obtain rfl := Option.some.inj H
      have aj : 0 ≤ (aa : Int) := DT
      have ah : aa < (l0.length : Int) := DT
      obtain ⟨ad, ag, ai, au, az, aB, an, aC, ax, aD, af, ae⟩ := at_T55 HR0.out aa aj ah
      cases au
      have ay := aM ae
      have aA := aM af
      clear ae af
      replace aj := eq_true aj
      replace ah := eq_true ah
      have aq : 0 ≤ (aa : Int) := DT
      have ap : aa < (l0.length : Int) := DT
      obtain ⟨aE, aS, aR, aF, aO, aP, ar, aN, aK, aQ, ak, am⟩ := at_T55 HR0.out aa aq ap
      obtain rfl : ad = aE := (by injection aF)
      have aI := aM am
      have aL := aM ak
      clear am ak
      replace aq := eq_true aq
      replace ap := eq_true ap
      have ea_ := Option.some.inj (an.symm.trans ar)
      injection ea_ with ea_ en_ ec_
      subst ea_
      subst ec_
      clear en_
      go_wp2
      go_ret
      exact ⟨by first | rfl | (simp; done) | (simp [*]; done), TD⟩
    ·rw [if_neg c5] at H
     have c5b0 : (((rd_T55 l0 aa).f0) == ac) = false := beq_eq_false_iff_ne.mpr c5
     have c5b1 : (((rd_T55 l0 aa).f0) != ac) = true := bne_iff_ne.mpr c5
     obtain rfl := Option.some.inj H
     have aj : 0 ≤ (aa : Int) := DT
     have ah : aa < (l0.length : Int) := DT
     obtain ⟨ad, ag, ai, au, az, aB, an, aC, ax, aD, af, ae⟩ := at_T55 HR0.out aa aj ah
     cases au
     have ay := aM ae
     have aA := aM af
     clear ae af
     replace aj := eq_true aj
     replace ah := eq_true ah
     go_wp2
     go_ret
     exact ⟨by first | rfl | (simp; done) | (simp [*]; done), TD⟩
   ·rw [if_neg c3] at H
    have c3b0 : decide (aa < (l0.length : Int)) = false := decide_eq_false c3
    clear c3
    obtain rfl := Option.some.inj H
    go_wp2
    go_ret
    exact ⟨by first | rfl | (simp; done) | (simp [*]; done), TD⟩

end Go.Proofs.Ytogilihkphjjbaa.Q
