/- Functions of the program as plain Lean functions, and that a call of each comes to what its function tells. Written by a program of this seat. -/
import Derived.Test.YtlghklbjmmijpaaQ0
import Derived.Test.YtlghklbjmmijpaaQ3
import Derived.Test.YtlghklbjmmijpaaQ15
import Derived.Test.YtlghklbjmmijpaaQ16
import Derived.Test.YtlghklbjmmijpaaQ17
import Derived.Test.YtlghklbjmmijpaaQ26
import Derived.Test.YtlghklbjmmijpaaQ28
namespace Go.Proofs.Ytlghklbjmmijpaa.Q
open Go.RowKit Go.Proofs.YtlghklbjmmijpaaW.PrintWords Go.Proofs.YtlghklbjmmijpaaW.PrintLast Go.Proofs.YtlghklbjmmijpaaW.PrintMore
attribute [local go_sem] max2_int min2_int max_two min_two max_three min_three max_four min_four   -- for this text's walks alone
set_option linter.unusedVariables false
set_option linter.unusedSimpArgs false

/-! ### laws_FnExactSafeFall: function 3 -/
def laws_FnExactSafeFall.f (k : Nat) (l0_0 : List Int) (l0_1 : List Int) (a0_2 : Int) (a0_3 : Int) (a0_4 : Int) (l0_5 : List (S108)) (l1 : List Int) (a2 : Int) (l3 : List Int) : Option (Bool) := if (l1.length : Int) > 1048576 then (some true) else (if (l3.length : Int) > 1048576 then (some true) else ((laws_szDisk.f k l0_0 l0_1 a0_2 a0_3 a0_4 l0_5 1048576).bind fun t405 => (if t405 < 0 then (some true) else ((laws_toDisk.f k l0_0 l0_1 a0_2 a0_3 a0_4 l0_5).bind fun bt406 => ((laws_toByteS.f k l1).bind fun t418 => ((laws_toByteS.f k l3).bind fun t421 => ((spec_SafeFall.f k bt406.1 bt406.2.1 bt406.2.2.1 bt406.2.2.2.1 bt406.2.2.2.2.1 bt406.2.2.2.2.2 t418 a2 t421).bind fun t424 => ((laws_toDisk.f k l0_0 l0_1 a0_2 a0_3 a0_4 l0_5).bind fun bt425 => ((laws_toByteS.f k l1).bind fun t438 => ((laws_toByteS.f k l3).bind fun t441 => ((impl_SafeFall.f k bt425.1 bt425.2.1 bt425.2.2.1 bt425.2.2.2.1 bt425.2.2.2.2.1 bt425.2.2.2.2.2 t438 a2 t441).bind fun t444 => (if (t444 != t424) = true then (none) else ((laws_toDisk.f k l0_0 l0_1 a0_2 a0_3 a0_4 l0_5).bind fun bt445 => ((laws_eqDisk.f k bt425.1 bt425.2.1 bt425.2.2.1 bt425.2.2.2.1 bt425.2.2.2.2.1 bt425.2.2.2.2.2 bt445.1 bt445.2.1 bt445.2.2.1 bt445.2.2.2.1 bt445.2.2.2.2.1 bt445.2.2.2.2.2).bind fun t457 => (if t457 = true then ((laws_toByteS.f k l1).bind fun t458 => ((laws_eqByteS.f k t438 t458).bind fun t461 => (if t461 = true then ((laws_toByteS.f k l3).bind fun t462 => ((laws_eqByteS.f k t441 t462).bind fun t465 => (if t465 = true then (some true) else (none)))) else (none)))) else (none))))))))))))))))
theorem laws_FnExactSafeFall.mono : ∀ a0 a1 a2 a3 a4 a5 a6 a7 a8 k, LeO (laws_FnExactSafeFall.f k a0 a1 a2 a3 a4 a5 a6 a7 a8) (laws_FnExactSafeFall.f (k + 1) a0 a1 a2 a3 a4 a5 a6 a7 a8) := by
  intro a0 a1 a2 a3 a4 a5 a6 a7 a8 k
  have m0_ := @impl_SafeFall.mono
  have m1_ := @laws_eqByteS.mono
  have m2_ := @laws_eqDisk.mono
  have m3_ := @laws_szDisk.mono
  have m4_ := @laws_toByteS.mono
  have m5_ := @laws_toDisk.mono
  have m6_ := @spec_SafeFall.mono
  unfold laws_FnExactSafeFall.f
  exact LM
set_option maxHeartbeats 40000000 in
set_option maxRecDepth 100000 in
theorem laws_FnExactSafeFall.calls (k : Nat) (az : Option Addr) (aE : Nat) (ao : List Int) (aA : Option Addr) (aD : Nat) (ap : List Int) (au : Int) (aq : Int) (ar : Int) (aC : Option Addr) (aB : Nat) (an : List (S108)) (A1 : Option Addr) (c1 : Nat) (l1 : List Int) (a2 : Int) (A3 : Option Addr) (c3 : Nat) (l3 : List Int) (r : Bool) (w : World) (bu : Kd.C (Kd.int .u8) w az ao.length ao) (bt : ao.length ≤ aE) (bs : Kd.C (Kd.int .u8) w aA ap.length ap) (bv : ap.length ≤ aD) (br : Kd.C k108 w aC an.length an) (bw : an.length ≤ aB) (hr1 : Kd.C (Kd.int .u8) w A1 l1.length l1) (hc1 : l1.length ≤ c1) (hr3 : Kd.C (Kd.int .u8) w A3 l3.length l3) (hc3 : l3.length ≤ c3) (h : laws_FnExactSafeFall.f k ao ap au aq ar an l1 a2 l3 = some r) :
  Calls Try.prog 3 #[.agg #[.slice az ao.length aE, .slice aA ap.length aD, .int .i64 au, .int .i64 aq, .int .i64 ar, .slice aC an.length aB], .slice A1 l1.length c1, .int .i64 a2, .slice A3 l3.length c3] w fun e w' => e = .returned (.bool r) ∧ Below w.heap.size w w' := by
 have hu27 := Try.underlying27
 have hu33 := Try.underlying33
 have aO := aM bu
 have aL := aM bt
 clear bu bt
 have aQ := aM bs
 have aK := aM bv
 clear bs bv
 have aN := aM br
 have aP := aM bw
 clear br bw
 have HR1 := aM hr1
 have HC1 := aM hc1
 clear hr1 hc1
 have HR3 := aM hr3
 have HC3 := aM hc3
 clear hr3 hc3
 have HB := aM (Below.refl w.heap.size w)
 have H := h
 clear h
 unfold laws_FnExactSafeFall.f at H
 by_cases c5 : (l1.length : Int) > 1048576
 ·rw [if_pos c5] at H
  have c5b0 : decide (1048576 < (l1.length : Int)) = true := decide_eq_true c5
  have c5b1 : decide (1048576 < l1.length) = true := decide_eq_true (by omega)
  clear c5
  obtain rfl := Option.some.inj H
  go_enter Try.func3, Try.ntmps3
  go_wp2_with (first | ((with_reducible refine gate_dst (N := 4) rfl ?_); refine gBx 4 #[.slice az ao.length aE, .slice aA ap.length aD, .int .i64 au, .int .i64 aq, .int .i64 ar, .slice aC an.length aB] 27 ?_; intro am hg w6 hbox hb; have aa := aM (hbox); have GW404 := aM ((by rw [hg]; exact (below_size TB) : w.heap.size ≤ am)); have GE404 := aM ((by rw [hg]; exact (below_size TB) : w.heap.size ≤ am)); replace HB := aM (below_step TB hb); clear hb hbox hg))
  go_ret
  exact ⟨by first | rfl | (simp [errW_none, errW_some] <;> rfl) | (simp [*, errW_none, errW_some] <;> rfl), TB⟩
 ·rw [if_neg c5] at H
  have c5b0 : decide (1048576 < (l1.length : Int)) = false := decide_eq_false c5
  have c5b1 : decide (1048576 < l1.length) = false := decide_eq_false (by omega)
  clear c5
  by_cases c7 : (l3.length : Int) > 1048576
  ·rw [if_pos c7] at H
   have c7b0 : decide (1048576 < (l3.length : Int)) = true := decide_eq_true c7
   have c7b1 : decide (1048576 < l3.length) = true := decide_eq_true (by omega)
   clear c7
   obtain rfl := Option.some.inj H
   go_enter Try.func3, Try.ntmps3
   go_wp2_with (first | ((with_reducible refine gate_dst (N := 4) rfl ?_); refine gBx 4 #[.slice az ao.length aE, .slice aA ap.length aD, .int .i64 au, .int .i64 aq, .int .i64 ar, .slice aC an.length aB] 27 ?_; intro am hg w8 hbox hb; have aa := aM (hbox); have GW404 := aM ((by rw [hg]; exact (below_size TB) : w.heap.size ≤ am)); have GE404 := aM ((by rw [hg]; exact (below_size TB) : w.heap.size ≤ am)); replace HB := aM (below_step TB hb); clear hb hbox hg))
   go_ret
   exact ⟨by first | rfl | (simp [errW_none, errW_some] <;> rfl) | (simp [*, errW_none, errW_some] <;> rfl), TB⟩
  ·rw [if_neg c7] at H
   have c7b0 : decide (1048576 < (l3.length : Int)) = false := decide_eq_false c7
   have c7b1 : decide (1048576 < l3.length) = false := decide_eq_false (by omega)
   clear c7
   replace H := bE H
   obtain ⟨aX, A9, H⟩ := H
   go_enter Try.func3, Try.ntmps3
   go_wp2_with (first | ((with_reducible refine gate_dst (N := 4) rfl ?_); refine gBx 4 #[.slice az ao.length aE, .slice aA ap.length aD, .int .i64 au, .int .i64 aq, .int .i64 ar, .slice aC an.length aB] 27 ?_; intro am hg w10 hbox hb; have aa := aM (hbox); have GW404 := aM ((by rw [hg]; exact (below_size TB) : w.heap.size ≤ am)); have GE404 := aM ((by rw [hg]; exact (below_size TB) : w.heap.size ≤ am)); replace HB := aM (below_step TB hb); clear hb hbox hg; obtain ⟨hcz11_0, hcz11_1, hcz11_2, hcz11_3, hcz11_4, hcz11_5⟩ := cz6 aa.out; obtain ⟨hfz11_0, hfz11_1, hfz11_2, hfz11_3, hfz11_4, hfz11_5⟩ := fz6 aa.out) | ((with_reducible refine gate_callee (f := 8) rfl ?_); (with_reducible refine gate_dst (N := 23) rfl ?_); generalize hG_ : wpList _ _ _ _ _ _ = G_))
   subst hG_
   by_cases c12 : aX < 0
   ·rw [if_pos c12] at H
    have c12b0 : decide (aX < 0) = true := decide_eq_true c12
    clear c12
    obtain rfl := Option.some.inj H
    go_wp2_with (first | ((with_reducible refine gate_callee (f := 8) rfl ?_); refine gL (some 23) Try.func8 #[.agg #[.slice az ao.length aE, .slice aA ap.length aD, .int .i64 au, .int .i64 aq, .int .i64 ar, .slice aC an.length aB], .int .i64 1048576] ?_; (with_reducible refine (laws_szDisk.calls k _ _ ao _ _ ap au aq ar _ _ an 1048576 aX _ ?side1 ?side2 ?side3 ?side4 ?side5 ?side6 A9.out).mono ?_); (case side1 => repeat (first | exact (Kd.C_below aO.out TB) | (with_reducible refine Kd.C_alloc ?_ _) | (with_reducible refine Kd.C_drewN ?_ _) | (with_reducible refine Kd.C_drew ?_))); (case side2 => exact aL.out); (case side3 => repeat (first | exact (Kd.C_below aQ.out TB) | (with_reducible refine Kd.C_alloc ?_ _) | (with_reducible refine Kd.C_drewN ?_ _) | (with_reducible refine Kd.C_drew ?_))); (case side4 => exact aK.out); (case side5 => repeat (first | exact (Kd.C_below aN.out TB) | (with_reducible refine Kd.C_alloc ?_ _) | (with_reducible refine Kd.C_drewN ?_ _) | (with_reducible refine Kd.C_drew ?_))); (case side6 => exact aP.out); rintro e w13 ⟨rfl, hb⟩; refine ⟨_, rfl, ?_⟩; replace aa := aM (blk_below (by have X_ := aa.out; exact TX) hb); replace HB := aM (below_step TB hb); clear hb))
    go_ret
    exact ⟨by first | rfl | (simp [errW_none, errW_some] <;> rfl) | (simp [*, errW_none, errW_some] <;> rfl), TB⟩
   ·rw [if_neg c12] at H
    have c12b0 : decide (aX < 0) = false := decide_eq_false c12
    clear c12
    replace H := bE H
    obtain ⟨⟨bk, bl, bn, bf, bc, bj⟩, A14, H⟩ := H
    dsimp only at H
    replace H := bE H
    obtain ⟨bg, A15, H⟩ := H
    replace H := bE H
    obtain ⟨bm, A16, H⟩ := H
    replace H := bE H
    obtain ⟨a9, A17, H⟩ := H
    replace H := bE H
    obtain ⟨⟨ay, aF, aG, aH, aI, aJ⟩, A18, H⟩ := H
    dsimp only at H
    replace H := bE H
    obtain ⟨aV, A19, H⟩ := H
    replace H := bE H
    obtain ⟨aZ, A20, H⟩ := H
    replace H := bE H
    obtain ⟨ba, A21, H⟩ := H
    replace H := ifM H
    obtain ⟨c22, H⟩ := H
    have c22b0 : (ba != a9) = false := by simpa using c22
    (try (have c22b1 : decide (ba = a9) = true := by simpa using c22))
    (try (have c22b2 : (ba == a9) = true := by simpa using c22))
    clear c22
    replace H := bE H
    obtain ⟨⟨bi, bo, bb, bq, bh, bd⟩, A23, H⟩ := H
    dsimp only at H
    replace H := bE H
    obtain ⟨t457, A24, H⟩ := H
    replace H := ifN H
    obtain ⟨c25, H⟩ := H
    subst c25
    replace H := bE H
    obtain ⟨bp, A26, H⟩ := H
    replace H := bE H
    obtain ⟨t461, A27, H⟩ := H
    replace H := ifN H
    obtain ⟨c28, H⟩ := H
    subst c28
    replace H := bE H
    obtain ⟨be, A29, H⟩ := H
    replace H := bE H
    obtain ⟨t465, A30, H⟩ := H
    replace H := ifN H
    obtain ⟨c31, H⟩ := H
    subst c31
    obtain rfl := Option.some.inj H
    try go_wp2_with (first | ((with_reducible refine gate_callee (f := 8) rfl ?_); refine gL (some 23) Try.func8 #[.agg #[.slice az ao.length aE, .slice aA ap.length aD, .int .i64 au, .int .i64 aq, .int .i64 ar, .slice aC an.length aB], .int .i64 1048576] ?_; (with_reducible refine (laws_szDisk.calls k _ _ ao _ _ ap au aq ar _ _ an 1048576 aX _ ?side1 ?side2 ?side3 ?side4 ?side5 ?side6 A9.out).mono ?_); (case side1 => repeat (first | exact (Kd.C_below aO.out TB) | (with_reducible refine Kd.C_alloc ?_ _) | (with_reducible refine Kd.C_drewN ?_ _) | (with_reducible refine Kd.C_drew ?_))); (case side2 => exact aL.out); (case side3 => repeat (first | exact (Kd.C_below aQ.out TB) | (with_reducible refine Kd.C_alloc ?_ _) | (with_reducible refine Kd.C_drewN ?_ _) | (with_reducible refine Kd.C_drew ?_))); (case side4 => exact aK.out); (case side5 => repeat (first | exact (Kd.C_below aN.out TB) | (with_reducible refine Kd.C_alloc ?_ _) | (with_reducible refine Kd.C_drewN ?_ _) | (with_reducible refine Kd.C_drew ?_))); (case side6 => exact aP.out); rintro e w32 ⟨rfl, hb⟩; refine ⟨_, rfl, ?_⟩; replace aa := aM (blk_below (by have X_ := aa.out; exact TX) hb); replace HB := aM (below_step TB hb); clear hb; obtain ⟨hcz33_0, hcz33_1, hcz33_2, hcz33_3, hcz33_4, hcz33_5⟩ := cz6 aa.out; obtain ⟨hfz33_0, hfz33_1, hfz33_2, hfz33_3, hfz33_4, hfz33_5⟩ := fz6 aa.out) | ((with_reducible refine gate_callee (f := 10) rfl ?_); refine gL (some 27) Try.func10 #[.agg #[.slice az ao.length aE, .slice aA ap.length aD, .int .i64 au, .int .i64 aq, .int .i64 ar, .slice aC an.length aB]] ?_; (with_reducible refine (laws_toDisk.calls k _ _ ao _ _ ap au aq ar _ _ an bk bl bn bf bc bj _ ?side1 ?side2 ?side3 ?side4 ?side5 ?side6 A14.out).mono ?_); (case side1 => have X_ := (Kd.C_below aO.out HB.out); exact TC); (case side2 => exact aL.out); (case side3 => have X_ := (Kd.C_below aQ.out HB.out); exact TC); (case side4 => exact aK.out); (case side5 => have X_ := (Kd.C_below aN.out HB.out); exact TC); (case side6 => exact aP.out); rintro e w34 ⟨v407, v410, v416, rfl, ho0, ho1, ho2, hb⟩; refine ⟨_, rfl, ?_⟩; have ac := aM (Kd.R_lower ho0 (below_size TB)); have ad := aM (Kd.R_lower ho1 (below_size TB)); have ag := aM (Kd.S_lower ho2 (below_size TB)); replace aa := aM (blk_below (by have X_ := aa.out; exact TX) hb); replace HB := aM (below_step TB hb); clear ho0 ho1 ho2 hb) | ((with_reducible refine gate_callee (f := 11) rfl ?_); refine gL (some 29) Try.func11 #[.slice A1 l1.length c1] ?_; (with_reducible refine (laws_toByteS.calls k _ _ l1 bg _ ?side1 ?side2 A15.out).mono ?_); (case side1 => have X_ := (Kd.C_below HR1.out HB.out); exact TC); (case side2 => exact HC1.out); rintro e w35 ⟨v419, rfl, ho0, hb⟩; refine ⟨_, rfl, ?_⟩; have ae := aM (Kd.R_lower (Kd.R_new' (Kd.R_new' ho0 (Kd.R_lt (by have X_ := ac.out; exact TR))) (Kd.R_lt (by have X_ := ad.out; exact TR))) (below_size TB)); replace ac := aM (Kd.R_elder' (by have X_ := ac.out; exact TR) (Kd.R_base ho0) hb); replace ad := aM (Kd.R_elder' (by have X_ := ad.out; exact TR) (Kd.R_base ho0) hb); replace ag := aM (Kd.S_elder' (by have X_ := ag.out; exact TS) (Kd.R_base ho0) hb); replace aa := aM (blk_below (by have X_ := aa.out; exact TX) hb); replace HB := aM (below_step TB hb); clear ho0 hb) | ((with_reducible refine gate_callee (f := 11) rfl ?_); refine gL (some 32) Try.func11 #[.slice A3 l3.length c3] ?_; (with_reducible refine (laws_toByteS.calls k _ _ l3 bm _ ?side1 ?side2 A16.out).mono ?_); (case side1 => have X_ := (Kd.C_below HR3.out HB.out); exact TC); (case side2 => exact HC3.out); rintro e w36 ⟨v422, rfl, ho0, hb⟩; refine ⟨_, rfl, ?_⟩; have af := aM (Kd.R_lower (Kd.R_new' (Kd.R_new' (Kd.R_new' ho0 (Kd.R_lt (by have X_ := ac.out; exact TR))) (Kd.R_lt (by have X_ := ad.out; exact TR))) (Kd.R_lt (by have X_ := ae.out; exact TR))) (below_size TB)); replace ac := aM (Kd.R_elder' (by have X_ := ac.out; exact TR) (Kd.R_base ho0) hb); replace ad := aM (Kd.R_elder' (by have X_ := ad.out; exact TR) (Kd.R_base ho0) hb); replace ag := aM (Kd.S_elder' (by have X_ := ag.out; exact TS) (Kd.R_base ho0) hb); replace ae := aM (Kd.R_elder' (by have X_ := ae.out; exact TR) (Kd.R_base ho0) hb); replace aa := aM (blk_below (by have X_ := aa.out; exact TX) hb); replace HB := aM (below_step TB hb); clear ho0 hb; obtain ⟨Ao37, co37, eo37⟩ := Kd.R_slice ac.out; subst eo37; obtain ⟨Ao38, co38, eo38⟩ := Kd.R_slice ad.out; subst eo38; obtain ⟨Ao39, co39, eo39⟩ := Kd.S_slice ag.out; subst eo39; obtain ⟨Ao40, co40, eo40⟩ := Kd.R_slice ae.out; subst eo40; obtain ⟨Ao41, co41, eo41⟩ := Kd.R_slice af.out; subst eo41) | ((with_reducible refine gate_callee (f := 9) rfl ?_); refine gL (some 33) Try.func9 #[.agg #[.slice Ao37 bk.length co37, .slice Ao38 bl.length co38, .int .i64 bn, .int .i64 bf, .int .i64 bc, .slice Ao39 bj.length co39], .slice Ao40 bg.length co40, .int .i64 a2, .slice Ao41 bm.length co41] ?_; (with_reducible refine (spec_SafeFall.calls k _ _ bk _ _ bl bn bf bc _ _ bj _ _ bg a2 _ _ bm a9 _ ?side1 ?side2 ?side3 ?side4 ?side5 ?side6 ?side7 ?side8 ?side9 ?side10 A17.out).mono ?_); (case side1 => have X_ := (Kd.R_reads' ac.out).2.2; exact TC); (case side2 => exact (Kd.R_reads' ac.out).2.1); (case side3 => have X_ := (Kd.R_reads' ad.out).2.2; exact TC); (case side4 => exact (Kd.R_reads' ad.out).2.1); (case side5 => have X_ := (Kd.S_reads' ag.out).2.2; exact TC); (case side6 => exact (Kd.S_reads' ag.out).2.1); (case side7 => have X_ := (Kd.R_reads' ae.out).2.2; exact TC); (case side8 => exact (Kd.R_reads' ae.out).2.1); (case side9 => have X_ := (Kd.R_reads' af.out).2.2; exact TC); (case side10 => exact (Kd.R_reads' af.out).2.1); rintro e w42 ⟨rfl, hb⟩; refine ⟨_, rfl, ?_⟩; replace ac := aM (Kd.R_below (by have X_ := ac.out; exact TR) hb); replace ad := aM (Kd.R_below (by have X_ := ad.out; exact TR) hb); replace ag := aM (Kd.S_below (by have X_ := ag.out; exact TS) hb); replace ae := aM (Kd.R_below (by have X_ := ae.out; exact TR) hb); replace af := aM (Kd.R_below (by have X_ := af.out; exact TR) hb); replace aa := aM (blk_below (by have X_ := aa.out; exact TX) hb); replace HB := aM (below_step TB hb); clear hb; obtain ⟨hcz43_0, hcz43_1, hcz43_2, hcz43_3, hcz43_4, hcz43_5⟩ := cz6 aa.out; obtain ⟨hfz43_0, hfz43_1, hfz43_2, hfz43_3, hfz43_4, hfz43_5⟩ := fz6 aa.out) | ((with_reducible refine gate_callee (f := 10) rfl ?_); refine gL (some 35) Try.func10 #[.agg #[.slice az ao.length aE, .slice aA ap.length aD, .int .i64 au, .int .i64 aq, .int .i64 ar, .slice aC an.length aB]] ?_; (with_reducible refine (laws_toDisk.calls k _ _ ao _ _ ap au aq ar _ _ an ay aF aG aH aI aJ _ ?side1 ?side2 ?side3 ?side4 ?side5 ?side6 A18.out).mono ?_); (case side1 => have X_ := (Kd.C_below aO.out HB.out); exact TC); (case side2 => exact aL.out); (case side3 => have X_ := (Kd.C_below aQ.out HB.out); exact TC); (case side4 => exact aK.out); (case side5 => have X_ := (Kd.C_below aN.out HB.out); exact TC); (case side6 => exact aP.out); rintro e w44 ⟨v426, v429, v435, rfl, ho0, ho1, ho2, hb⟩; refine ⟨_, rfl, ?_⟩; have ai := aM (Kd.R_lower (Kd.R_new' (Kd.R_new' (Kd.R_new' (Kd.R_new' ho0 (Kd.R_lt (by have X_ := ac.out; exact TR))) (Kd.R_lt (by have X_ := ad.out; exact TR))) (Kd.R_lt (by have X_ := ae.out; exact TR))) (Kd.R_lt (by have X_ := af.out; exact TR))) (below_size TB)); have ah := aM (Kd.R_lower (Kd.R_new' (Kd.R_new' (Kd.R_new' (Kd.R_new' ho1 (Kd.R_lt (by have X_ := ac.out; exact TR))) (Kd.R_lt (by have X_ := ad.out; exact TR))) (Kd.R_lt (by have X_ := ae.out; exact TR))) (Kd.R_lt (by have X_ := af.out; exact TR))) (below_size TB)); have ak := aM (Kd.S_lower (Kd.S_new' (Kd.S_new' (Kd.S_new' (Kd.S_new' (Kd.S_new' ho2 (Kd.R_lt (by have X_ := ac.out; exact TR))) (Kd.R_lt (by have X_ := ad.out; exact TR))) (Kd.S_lt (by have X_ := ag.out; exact TS))) (Kd.R_lt (by have X_ := ae.out; exact TR))) (Kd.R_lt (by have X_ := af.out; exact TR))) (below_size TB)); replace ac := aM (Kd.R_mono (Kd.R_told (Kd.R_told (Kd.R_old (by have X_ := ac.out; exact TR) hb) (Kd.R_base ho0)) (Kd.R_base ho1)) (fun _ h_ => h_.1)); replace ad := aM (Kd.R_mono (Kd.R_told (Kd.R_told (Kd.R_old (by have X_ := ad.out; exact TR) hb) (Kd.R_base ho0)) (Kd.R_base ho1)) (fun _ h_ => h_.1)); replace ag := aM (Kd.S_mono (Kd.S_told (Kd.S_told (Kd.S_told (Kd.S_old (by have X_ := ag.out; exact TS) hb) (Kd.R_base ho0)) (Kd.R_base ho1)) (Kd.S_base ho2)) (fun _ h_ => h_.1)); replace ae := aM (Kd.R_mono (Kd.R_told (Kd.R_told (Kd.R_old (by have X_ := ae.out; exact TR) hb) (Kd.R_base ho0)) (Kd.R_base ho1)) (fun _ h_ => h_.1)); replace af := aM (Kd.R_mono (Kd.R_told (Kd.R_told (Kd.R_old (by have X_ := af.out; exact TR) hb) (Kd.R_base ho0)) (Kd.R_base ho1)) (fun _ h_ => h_.1)); replace aa := aM (blk_below (by have X_ := aa.out; exact TX) hb); replace HB := aM (below_step TB hb); clear ho0 ho1 ho2 hb) | ((with_reducible refine gate_dst (N := 11) rfl ?_); refine gBx 11 #[.slice none 0 0, .slice none 0 0, .int .i64 0, .int .i64 0, .int .i64 0, .slice none 0 0] 33 ?_; intro gb437 hg w45 hbox hb; have ab := aM (hbox); have GW437 := aM ((by rw [hg]; exact (below_size TB) : w.heap.size ≤ gb437)); have GE437 := aM ((by rw [hg]; exact (below_size TB) : w.heap.size ≤ gb437)); have NB404_437 := aM ((by rw [hg]; exact Nat.ne_of_lt (blk_lt (by have X_ := aa.out; exact TX)) : am ≠ gb437)); have NB437_404 := aM ((by rw [hg]; exact Nat.ne_of_gt (blk_lt (by have X_ := aa.out; exact TX)) : gb437 ≠ am)); replace ac := aM (Kd.R_below (by have X_ := ac.out; exact TR) hb); replace ad := aM (Kd.R_below (by have X_ := ad.out; exact TR) hb); replace ag := aM (Kd.S_below (by have X_ := ag.out; exact TS) hb); replace ae := aM (Kd.R_below (by have X_ := ae.out; exact TR) hb); replace af := aM (Kd.R_below (by have X_ := af.out; exact TR) hb); replace ai := aM (Kd.R_below (by have X_ := ai.out; exact TR) hb); replace ah := aM (Kd.R_below (by have X_ := ah.out; exact TR) hb); replace ak := aM (Kd.S_below (by have X_ := ak.out; exact TS) hb); replace aa := aM (blk_below (by have X_ := aa.out; exact TX) hb); replace HB := aM (below_step TB hb); clear hb hbox hg; obtain ⟨Ao46, co46, eo46⟩ := Kd.R_slice ai.out; subst eo46; have hnb47 := NB437_404.out; have hnc47 := NB404_437.out; obtain ⟨hcz48_0, hcz48_1, hcz48_2, hcz48_3, hcz48_4, hcz48_5⟩ := cz6 ab.out; obtain ⟨hfz48_0, hfz48_1, hfz48_2, hfz48_3, hfz48_4, hfz48_5⟩ := fz6 ab.out; obtain ⟨Ao49, co49, eo49⟩ := Kd.R_slice ah.out; subst eo49; obtain ⟨Ao50, co50, eo50⟩ := Kd.S_slice ak.out; subst eo50) | ((with_reducible refine gate_callee (f := 11) rfl ?_); refine gL (some 37) Try.func11 #[.slice A1 l1.length c1] ?_; (with_reducible refine (laws_toByteS.calls k _ _ l1 aV _ ?side1 ?side2 A19.out).mono ?_); (case side1 => exact Kd.C_below HR1.out TB); (case side2 => exact HC1.out); rintro e w51 ⟨v439, rfl, ho0, hb⟩; refine ⟨_, rfl, ?_⟩; have aj := aM (Kd.R_lower (Kd.R_new' (Kd.R_new' (Kd.R_new' (Kd.R_new' (Kd.R_new' (Kd.R_new' ho0 (Kd.R_lt (by (with_reducible repeat (first | apply Kd.R_alloc | apply Kd.R_drewN | apply Kd.R_drew)); exact (R_off (Kd.R_types ac.out ab.out (by decide)) TO)))) (Kd.R_lt (by (with_reducible repeat (first | apply Kd.R_alloc | apply Kd.R_drewN | apply Kd.R_drew)); exact (R_off (Kd.R_types ad.out ab.out (by decide)) TO)))) (Kd.R_lt (by (with_reducible repeat (first | apply Kd.R_alloc | apply Kd.R_drewN | apply Kd.R_drew)); exact (R_off (Kd.R_types ae.out ab.out (by decide)) TO)))) (Kd.R_lt (by (with_reducible repeat (first | apply Kd.R_alloc | apply Kd.R_drewN | apply Kd.R_drew)); exact (R_off (Kd.R_types af.out ab.out (by decide)) TO)))) (Kd.R_lt (by (with_reducible repeat (first | apply Kd.R_alloc | apply Kd.R_drewN | apply Kd.R_drew)); exact (R_off (Kd.R_types ai.out ab.out (by decide)) TO)))) (Kd.R_lt (by (with_reducible repeat (first | apply Kd.R_alloc | apply Kd.R_drewN | apply Kd.R_drew)); exact (R_off (Kd.R_types ah.out ab.out (by decide)) TO)))) (below_size TB)); replace ac := aM (Kd.R_elder' (by (with_reducible repeat (first | apply Kd.R_alloc | apply Kd.R_drewN | apply Kd.R_drew)); exact (R_off (Kd.R_types ac.out ab.out (by decide)) TO)) (Kd.R_base ho0) hb); replace ad := aM (Kd.R_elder' (by (with_reducible repeat (first | apply Kd.R_alloc | apply Kd.R_drewN | apply Kd.R_drew)); exact (R_off (Kd.R_types ad.out ab.out (by decide)) TO)) (Kd.R_base ho0) hb); replace ag := aM (Kd.S_elder' (by (with_reducible repeat (first | apply Kd.S_alloc | apply Kd.S_drewN | apply Kd.S_drew)); exact (S_off (Kd.S_types ag.out ab.out (by decide)) TO)) (Kd.R_base ho0) hb); replace ae := aM (Kd.R_elder' (by (with_reducible repeat (first | apply Kd.R_alloc | apply Kd.R_drewN | apply Kd.R_drew)); exact (R_off (Kd.R_types ae.out ab.out (by decide)) TO)) (Kd.R_base ho0) hb); replace af := aM (Kd.R_elder' (by (with_reducible repeat (first | apply Kd.R_alloc | apply Kd.R_drewN | apply Kd.R_drew)); exact (R_off (Kd.R_types af.out ab.out (by decide)) TO)) (Kd.R_base ho0) hb); replace ai := aM (Kd.R_elder' (by (with_reducible repeat (first | apply Kd.R_alloc | apply Kd.R_drewN | apply Kd.R_drew)); exact (R_off (Kd.R_types ai.out ab.out (by decide)) TO)) (Kd.R_base ho0) hb); replace ah := aM (Kd.R_elder' (by (with_reducible repeat (first | apply Kd.R_alloc | apply Kd.R_drewN | apply Kd.R_drew)); exact (R_off (Kd.R_types ah.out ab.out (by decide)) TO)) (Kd.R_base ho0) hb); replace ak := aM (Kd.S_elder' (by (with_reducible repeat (first | apply Kd.S_alloc | apply Kd.S_drewN | apply Kd.S_drew)); exact (S_off (Kd.S_types ak.out ab.out (by decide)) TO)) (Kd.R_base ho0) hb); replace aa := aM (blk_below (g := am) (o := .cells #[.slice az ao.length aE, .slice aA ap.length aD, .int .i64 au, .int .i64 aq, .int .i64 ar, .slice aC an.length aB] 27 (0, 0)) (by (with_reducible repeat (first | refine blk_drewN ?_ _ | refine blk_drew ?_ | refine blk_alloc ?_ _)); refine blk_far ?_ NB404_437.out _; (with_reducible repeat (first | refine blk_drewN ?_ _ | refine blk_drew ?_ | refine blk_alloc ?_ _)); refine blk_far ?_ NB404_437.out _; (with_reducible repeat (first | refine blk_drewN ?_ _ | refine blk_drew ?_ | refine blk_alloc ?_ _)); refine blk_far ?_ NB404_437.out _; (with_reducible repeat (first | refine blk_drewN ?_ _ | refine blk_drew ?_ | refine blk_alloc ?_ _)); refine blk_far ?_ NB404_437.out _; (with_reducible repeat (first | refine blk_drewN ?_ _ | refine blk_drew ?_ | refine blk_alloc ?_ _)); refine blk_far ?_ NB404_437.out _; (with_reducible repeat (first | refine blk_drewN ?_ _ | refine blk_drew ?_ | refine blk_alloc ?_ _)); refine blk_far ?_ NB404_437.out _; (with_reducible repeat (first | refine blk_drewN ?_ _ | refine blk_drew ?_ | refine blk_alloc ?_ _)); exact aa.out) hb); replace ab := aM (blk_below (g := gb437) (o := .cells #[.slice Ao46 ay.length co46, .slice Ao49 aF.length co49, .int .i64 aG, .int .i64 aH, .int .i64 aI, .slice Ao50 aJ.length co50] 33 (0, 0)) (by (with_reducible repeat (first | refine blk_drewN ?_ _ | refine blk_drew ?_ | refine blk_alloc ?_ _)); refine blk_put (cs := #[.slice Ao46 ay.length co46, .slice Ao49 aF.length co49, .int .i64 aG, .int .i64 aH, .int .i64 aI, .slice none 0 0]) ?_ 5 _ rfl; (with_reducible repeat (first | refine blk_drewN ?_ _ | refine blk_drew ?_ | refine blk_alloc ?_ _)); refine blk_put (cs := #[.slice Ao46 ay.length co46, .slice Ao49 aF.length co49, .int .i64 aG, .int .i64 aH, .int .i64 0, .slice none 0 0]) ?_ 4 _ rfl; (with_reducible repeat (first | refine blk_drewN ?_ _ | refine blk_drew ?_ | refine blk_alloc ?_ _)); refine blk_put (cs := #[.slice Ao46 ay.length co46, .slice Ao49 aF.length co49, .int .i64 aG, .int .i64 0, .int .i64 0, .slice none 0 0]) ?_ 3 _ rfl; (with_reducible repeat (first | refine blk_drewN ?_ _ | refine blk_drew ?_ | refine blk_alloc ?_ _)); refine blk_put (cs := #[.slice Ao46 ay.length co46, .slice Ao49 aF.length co49, .int .i64 0, .int .i64 0, .int .i64 0, .slice none 0 0]) ?_ 2 _ rfl; (with_reducible repeat (first | refine blk_drewN ?_ _ | refine blk_drew ?_ | refine blk_alloc ?_ _)); refine blk_put (cs := #[.slice Ao46 ay.length co46, .slice none 0 0, .int .i64 0, .int .i64 0, .int .i64 0, .slice none 0 0]) ?_ 1 _ rfl; (with_reducible repeat (first | refine blk_drewN ?_ _ | refine blk_drew ?_ | refine blk_alloc ?_ _)); refine blk_put (cs := #[.slice none 0 0, .slice none 0 0, .int .i64 0, .int .i64 0, .int .i64 0, .slice none 0 0]) ?_ 0 _ rfl; (with_reducible repeat (first | refine blk_drewN ?_ _ | refine blk_drew ?_ | refine blk_alloc ?_ _)); exact ab.out) hb); replace HB := aM (below_step TB hb); clear ho0 hb) | ((with_reducible refine gate_callee (f := 11) rfl ?_); refine gL (some 39) Try.func11 #[.slice A3 l3.length c3] ?_; (with_reducible refine (laws_toByteS.calls k _ _ l3 aZ _ ?side1 ?side2 A20.out).mono ?_); (case side1 => have X_ := (Kd.C_below HR3.out HB.out); exact TC); (case side2 => exact HC3.out); rintro e w52 ⟨v442, rfl, ho0, hb⟩; refine ⟨_, rfl, ?_⟩; have al := aM (Kd.R_lower (Kd.R_new' (Kd.R_new' (Kd.R_new' (Kd.R_new' (Kd.R_new' (Kd.R_new' (Kd.R_new' ho0 (Kd.R_lt (by have X_ := ac.out; exact TR))) (Kd.R_lt (by have X_ := ad.out; exact TR))) (Kd.R_lt (by have X_ := ae.out; exact TR))) (Kd.R_lt (by have X_ := af.out; exact TR))) (Kd.R_lt (by have X_ := ai.out; exact TR))) (Kd.R_lt (by have X_ := ah.out; exact TR))) (Kd.R_lt (by have X_ := aj.out; exact TR))) (below_size TB)); replace ac := aM (Kd.R_elder' (by have X_ := ac.out; exact TR) (Kd.R_base ho0) hb); replace ad := aM (Kd.R_elder' (by have X_ := ad.out; exact TR) (Kd.R_base ho0) hb); replace ag := aM (Kd.S_elder' (by have X_ := ag.out; exact TS) (Kd.R_base ho0) hb); replace ae := aM (Kd.R_elder' (by have X_ := ae.out; exact TR) (Kd.R_base ho0) hb); replace af := aM (Kd.R_elder' (by have X_ := af.out; exact TR) (Kd.R_base ho0) hb); replace ai := aM (Kd.R_elder' (by have X_ := ai.out; exact TR) (Kd.R_base ho0) hb); replace ah := aM (Kd.R_elder' (by have X_ := ah.out; exact TR) (Kd.R_base ho0) hb); replace ak := aM (Kd.S_elder' (by have X_ := ak.out; exact TS) (Kd.R_base ho0) hb); replace aj := aM (Kd.R_elder' (by have X_ := aj.out; exact TR) (Kd.R_base ho0) hb); replace aa := aM (blk_below (by have X_ := aa.out; exact TX) hb); replace ab := aM (blk_below (by have X_ := ab.out; exact TX) hb); replace HB := aM (below_step TB hb); clear ho0 hb; obtain ⟨hcz53_0, hcz53_1, hcz53_2, hcz53_3, hcz53_4, hcz53_5⟩ := cz6 ab.out; obtain ⟨hfz53_0, hfz53_1, hfz53_2, hfz53_3, hfz53_4, hfz53_5⟩ := fz6 ab.out; obtain ⟨Ao54, co54, eo54⟩ := Kd.R_slice aj.out; subst eo54; obtain ⟨Ao55, co55, eo55⟩ := Kd.R_slice al.out; subst eo55) | ((with_reducible refine gate_callee (f := 12) rfl ?_); refine gL (some 44) Try.func12 #[.agg #[.slice Ao46 ay.length co46, .slice Ao49 aF.length co49, .int .i64 aG, .int .i64 aH, .int .i64 aI, .slice Ao50 aJ.length co50], .slice Ao54 aV.length co54, .int .i64 a2, .slice Ao55 aZ.length co55] ?_; (with_reducible refine (impl_SafeFall.calls k _ _ ay _ _ aF aG aH aI _ _ aJ _ _ aV a2 _ _ aZ ba _ ?side1 ?side2 ?side3 ?side4 ?side5 ?side6 ?side7 ?side8 ?side9 ?side10 A21.out).mono ?_); (case side1 => have X_ := (Kd.R_reads' ai.out).2.2; exact TC); (case side2 => exact (Kd.R_reads' ai.out).2.1); (case side3 => have X_ := (Kd.R_reads' ah.out).2.2; exact TC); (case side4 => exact (Kd.R_reads' ah.out).2.1); (case side5 => have X_ := (Kd.S_reads' ak.out).2.2; exact TC); (case side6 => exact (Kd.S_reads' ak.out).2.1); (case side7 => have X_ := (Kd.R_reads' aj.out).2.2; exact TC); (case side8 => exact (Kd.R_reads' aj.out).2.1); (case side9 => have X_ := (Kd.R_reads' al.out).2.2; exact TC); (case side10 => exact (Kd.R_reads' al.out).2.1); rintro e w56 ⟨rfl, hb⟩; refine ⟨_, rfl, ?_⟩; replace ac := aM (Kd.R_below (by have X_ := ac.out; exact TR) hb); replace ad := aM (Kd.R_below (by have X_ := ad.out; exact TR) hb); replace ag := aM (Kd.S_below (by have X_ := ag.out; exact TS) hb); replace ae := aM (Kd.R_below (by have X_ := ae.out; exact TR) hb); replace af := aM (Kd.R_below (by have X_ := af.out; exact TR) hb); replace ai := aM (Kd.R_below (by have X_ := ai.out; exact TR) hb); replace ah := aM (Kd.R_below (by have X_ := ah.out; exact TR) hb); replace ak := aM (Kd.S_below (by have X_ := ak.out; exact TS) hb); replace aj := aM (Kd.R_below (by have X_ := aj.out; exact TR) hb); replace al := aM (Kd.R_below (by have X_ := al.out; exact TR) hb); replace aa := aM (blk_below (by have X_ := aa.out; exact TX) hb); replace ab := aM (blk_below (by have X_ := ab.out; exact TX) hb); replace HB := aM (below_step TB hb); clear hb))
    replace ac := aM (Kd.R_drew ac.out)
    replace ad := aM (Kd.R_drew ad.out)
    replace ag := aM (Kd.S_drew ag.out)
    replace ae := aM (Kd.R_drew ae.out)
    replace af := aM (Kd.R_drew af.out)
    replace ai := aM (Kd.R_drew ai.out)
    replace ah := aM (Kd.R_drew ah.out)
    replace ak := aM (Kd.S_drew ak.out)
    replace aj := aM (Kd.R_drew aj.out)
    replace al := aM (Kd.R_drew al.out)
    replace aa := aM (blk_drew aa.out)
    replace ab := aM (blk_drew ab.out)
    replace HB := aM (below_drew1 HB.out)
    refine start_ (n := 5) (S := fun w' => w'.cell? ⟨gb437, 0, none⟩ = some (.slice Ao46 ay.length co46) ∧ w'.cell? ⟨gb437, 1, none⟩ = some (.slice Ao49 aF.length co49) ∧ w'.cell? ⟨gb437, 2, none⟩ = some (.int .i64 aG) ∧ w'.cell? ⟨gb437, 3, none⟩ = some (.int .i64 aH) ∧ w'.cell? ⟨gb437, 4, none⟩ = some (.int .i64 aI) ∧ w'.cell? ⟨gb437, 5, none⟩ = some (.slice Ao50 aJ.length co50) ∧ w'.cell? ⟨am, 0, none⟩ = some (.slice az ao.length aE) ∧ w'.cell? ⟨am, 1, none⟩ = some (.slice aA ap.length aD) ∧ w'.cell? ⟨am, 2, none⟩ = some (.int .i64 au) ∧ w'.cell? ⟨am, 3, none⟩ = some (.int .i64 aq) ∧ w'.cell? ⟨am, 4, none⟩ = some (.int .i64 ar) ∧ w'.cell? ⟨am, 5, none⟩ = some (.slice aC an.length aB)) (ds := []) (Array.replicate 5 false) (by kernel_rfl) rfl rfl ⟨(blk_cell ab.out 0).trans rfl, (blk_cell ab.out 1).trans rfl, (blk_cell ab.out 2).trans rfl, (blk_cell ab.out 3).trans rfl, (blk_cell ab.out 4).trans rfl, (blk_cell ab.out 5).trans rfl, (blk_cell aa.out 0).trans rfl, (blk_cell aa.out 1).trans rfl, (blk_cell aa.out 2).trans rfl, (blk_cell aa.out 3).trans rfl, (blk_cell aa.out 4).trans rfl, (blk_cell aa.out 5).trans rfl⟩ (fun hHeld => ?_)
    generalize w56.drew = w57 at ac ad ag ae af ai ah ak aj al aa ab HB hHeld ⊢
    refine pT 0 (some 48) ?_
    refine pT 1 (some 49) ?_
    refine pO 2 (some 50) (fun K hK => ?_)
    refine gG Try.func10 #[.agg #[.slice az ao.length aE, .slice aA ap.length aD, .int .i64 au, .int .i64 aq, .int .i64 ar, .slice aC an.length aB]] ?_
    with_reducible refine (laws_toDisk.calls k _ _ ao _ _ ap au aq ar _ _ an bi bo bb bq bh bd _ ?side1 ?side2 ?side3 ?side4 ?side5 ?side6 A23.out).mono ?_
    (case side1 => have X_ := (Kd.C_below aO.out HB.out); exact TC)
    (case side2 => exact aL.out)
    (case side3 => have X_ := (Kd.C_below aQ.out HB.out); exact TC)
    (case side4 => exact aK.out)
    (case side5 => have X_ := (Kd.C_below aN.out HB.out); exact TC)
    (case side6 => exact aP.out)
    rintro e w58 ⟨v446, v449, v455, rfl, ho0, ho1, ho2, hb⟩
    refine ⟨_, rfl, ?_⟩
    have n0_ := aM (Kd.R_mono (Kd.R_told (Kd.R_told (Kd.R_old (by have X_ := ac.out; exact TR) hb) (Kd.R_base ho0)) (Kd.R_base ho1)) (fun _ h_ => h_.1))
    have n1_ := aM (Kd.R_mono (Kd.R_told (Kd.R_told (Kd.R_old (by have X_ := ad.out; exact TR) hb) (Kd.R_base ho0)) (Kd.R_base ho1)) (fun _ h_ => h_.1))
    have n2_ := aM (Kd.S_mono (Kd.S_told (Kd.S_told (Kd.S_told (Kd.S_old (by have X_ := ag.out; exact TS) hb) (Kd.R_base ho0)) (Kd.R_base ho1)) (Kd.S_base ho2)) (fun _ h_ => h_.1))
    have n3_ := aM (Kd.R_mono (Kd.R_told (Kd.R_told (Kd.R_old (by have X_ := ae.out; exact TR) hb) (Kd.R_base ho0)) (Kd.R_base ho1)) (fun _ h_ => h_.1))
    have n4_ := aM (Kd.R_mono (Kd.R_told (Kd.R_told (Kd.R_old (by have X_ := af.out; exact TR) hb) (Kd.R_base ho0)) (Kd.R_base ho1)) (fun _ h_ => h_.1))
    have n5_ := aM (Kd.R_mono (Kd.R_told (Kd.R_told (Kd.R_old (by have X_ := ai.out; exact TR) hb) (Kd.R_base ho0)) (Kd.R_base ho1)) (fun _ h_ => h_.1))
    have n6_ := aM (Kd.R_mono (Kd.R_told (Kd.R_told (Kd.R_old (by have X_ := ah.out; exact TR) hb) (Kd.R_base ho0)) (Kd.R_base ho1)) (fun _ h_ => h_.1))
    have n7_ := aM (Kd.S_mono (Kd.S_told (Kd.S_told (Kd.S_told (Kd.S_old (by have X_ := ak.out; exact TS) hb) (Kd.R_base ho0)) (Kd.R_base ho1)) (Kd.S_base ho2)) (fun _ h_ => h_.1))
    have n8_ := aM (Kd.R_mono (Kd.R_told (Kd.R_told (Kd.R_old (by have X_ := aj.out; exact TR) hb) (Kd.R_base ho0)) (Kd.R_base ho1)) (fun _ h_ => h_.1))
    have n9_ := aM (Kd.R_mono (Kd.R_told (Kd.R_told (Kd.R_old (by have X_ := al.out; exact TR) hb) (Kd.R_base ho0)) (Kd.R_base ho1)) (fun _ h_ => h_.1))
    have aU := aM (Kd.R_lower (Kd.R_new' (Kd.R_new' (Kd.R_new' (Kd.R_new' (Kd.R_new' (Kd.R_new' (Kd.R_new' (Kd.R_new' ho0 (Kd.R_lt (by have X_ := ac.out; exact TR))) (Kd.R_lt (by have X_ := ad.out; exact TR))) (Kd.R_lt (by have X_ := ae.out; exact TR))) (Kd.R_lt (by have X_ := af.out; exact TR))) (Kd.R_lt (by have X_ := ai.out; exact TR))) (Kd.R_lt (by have X_ := ah.out; exact TR))) (Kd.R_lt (by have X_ := aj.out; exact TR))) (Kd.R_lt (by have X_ := al.out; exact TR))) (below_size TB))
    have aW := aM (Kd.R_lower (Kd.R_new' (Kd.R_new' (Kd.R_new' (Kd.R_new' (Kd.R_new' (Kd.R_new' (Kd.R_new' (Kd.R_new' ho1 (Kd.R_lt (by have X_ := ac.out; exact TR))) (Kd.R_lt (by have X_ := ad.out; exact TR))) (Kd.R_lt (by have X_ := ae.out; exact TR))) (Kd.R_lt (by have X_ := af.out; exact TR))) (Kd.R_lt (by have X_ := ai.out; exact TR))) (Kd.R_lt (by have X_ := ah.out; exact TR))) (Kd.R_lt (by have X_ := aj.out; exact TR))) (Kd.R_lt (by have X_ := al.out; exact TR))) (below_size TB))
    have aS := aM (Kd.S_lower (Kd.S_new' (Kd.S_new' (Kd.S_new' (Kd.S_new' (Kd.S_new' (Kd.S_new' (Kd.S_new' (Kd.S_new' (Kd.S_new' (Kd.S_new' ho2 (Kd.R_lt (by have X_ := ac.out; exact TR))) (Kd.R_lt (by have X_ := ad.out; exact TR))) (Kd.S_lt (by have X_ := ag.out; exact TS))) (Kd.R_lt (by have X_ := ae.out; exact TR))) (Kd.R_lt (by have X_ := af.out; exact TR))) (Kd.R_lt (by have X_ := ai.out; exact TR))) (Kd.R_lt (by have X_ := ah.out; exact TR))) (Kd.S_lt (by have X_ := ak.out; exact TS))) (Kd.R_lt (by have X_ := aj.out; exact TR))) (Kd.R_lt (by have X_ := al.out; exact TR))) (below_size TB))
    have aT := aM (blk_below (by have X_ := aa.out; exact TX) hb)
    have aY := aM (blk_below (by have X_ := ab.out; exact TX) hb)
    have aR := aM (below_step TB hb)
    clear ac
    clear ad
    clear ag
    clear ae
    clear af
    clear ai
    clear ah
    clear ak
    clear aj
    clear al
    clear aa
    clear ab
    clear HB
    have ac := n0_
    have ad := n1_
    have ag := n2_
    have ae := n3_
    have af := n4_
    have ai := n5_
    have ah := n6_
    have ak := n7_
    have aj := n8_
    have al := n9_
    have av := aU
    have aw := aW
    have ax := aS
    have aa := aT
    have ab := aY
    have HB := aR
    clear n0_ n1_ n2_ n3_ n4_ n5_ n6_ n7_ n8_ n9_ aU aW aS aT aY aR
    (try clear hb)
    (try clear hb2)
    (try clear hk)
    (try clear hi)
    (try clear ho0)
    (try clear ho1)
    (try clear ho2)
    obtain ⟨Ao59, co59, eo59⟩ := Kd.R_slice av.out
    (first | subst eo59 | (injection eo59 with f1_ f2_ f3_; have f4_ := f1_.symm; have f5_ := f3_.symm; clear f1_ f2_ f3_; subst f4_; subst f5_))
    obtain ⟨Ao60, co60, eo60⟩ := Kd.R_slice aw.out
    (first | subst eo60 | (injection eo60 with f1_ f2_ f3_; have f4_ := f1_.symm; have f5_ := f3_.symm; clear f1_ f2_ f3_; subst f4_; subst f5_))
    obtain ⟨Ao61, co61, eo61⟩ := Kd.S_slice ax.out
    (first | subst eo61 | (injection eo61 with f1_ f2_ f3_; have f4_ := f1_.symm; have f5_ := f3_.symm; clear f1_ f2_ f3_; subst f4_; subst f5_))
    refine hK.out _ _ ⟨(blk_cell ab.out 0).trans rfl, (blk_cell ab.out 1).trans rfl, (blk_cell ab.out 2).trans rfl, (blk_cell ab.out 3).trans rfl, (blk_cell ab.out 4).trans rfl, (blk_cell ab.out 5).trans rfl, (blk_cell aa.out 0).trans rfl, (blk_cell aa.out 1).trans rfl, (blk_cell aa.out 2).trans rfl, (blk_cell aa.out 3).trans rfl, (blk_cell aa.out 4).trans rfl, (blk_cell aa.out 5).trans rfl⟩ (fun hHeld => ?_)
    clear hK K
    refine nR ?_
    refine pO 3 (some 51) (fun K hK => ?_)
    refine gG Try.func13 #[.agg #[.slice Ao46 ay.length co46, .slice Ao49 aF.length co49, .int .i64 aG, .int .i64 aH, .int .i64 aI, .slice Ao50 aJ.length co50], .agg #[.slice Ao59 bi.length co59, .slice Ao60 bo.length co60, .int .i64 bb, .int .i64 bq, .int .i64 bh, .slice Ao61 bd.length co61]] ?_
    with_reducible refine (laws_eqDisk.calls k _ _ ay _ _ aF aG aH aI _ _ aJ _ _ bi _ _ bo bb bq bh _ _ bd true _ ?side1 ?side2 ?side3 ?side4 ?side5 ?side6 ?side7 ?side8 ?side9 ?side10 ?side11 ?side12 A24.out).mono ?_
    (case side1 => have X_ := (Kd.R_reads' ai.out).2.2; exact TC)
    (case side2 => exact (Kd.R_reads' ai.out).2.1)
    (case side3 => have X_ := (Kd.R_reads' ah.out).2.2; exact TC)
    (case side4 => exact (Kd.R_reads' ah.out).2.1)
    (case side5 => have X_ := (Kd.S_reads' ak.out).2.2; exact TC)
    (case side6 => exact (Kd.S_reads' ak.out).2.1)
    (case side7 => have X_ := (Kd.R_reads' av.out).2.2; exact TC)
    (case side8 => exact (Kd.R_reads' av.out).2.1)
    (case side9 => have X_ := (Kd.R_reads' aw.out).2.2; exact TC)
    (case side10 => exact (Kd.R_reads' aw.out).2.1)
    (case side11 => have X_ := (Kd.S_reads' ax.out).2.2; exact TC)
    (case side12 => exact (Kd.S_reads' ax.out).2.1)
    rintro e w62 ⟨rfl, hb⟩
    refine ⟨_, rfl, ?_⟩
    have n0_ := aM (Kd.R_below (by have X_ := ac.out; exact TR) hb)
    have n1_ := aM (Kd.R_below (by have X_ := ad.out; exact TR) hb)
    have n2_ := aM (Kd.S_below (by have X_ := ag.out; exact TS) hb)
    have n3_ := aM (Kd.R_below (by have X_ := ae.out; exact TR) hb)
    have n4_ := aM (Kd.R_below (by have X_ := af.out; exact TR) hb)
    have n5_ := aM (Kd.R_below (by have X_ := ai.out; exact TR) hb)
    have n6_ := aM (Kd.R_below (by have X_ := ah.out; exact TR) hb)
    have n7_ := aM (Kd.S_below (by have X_ := ak.out; exact TS) hb)
    have n8_ := aM (Kd.R_below (by have X_ := aj.out; exact TR) hb)
    have n9_ := aM (Kd.R_below (by have X_ := al.out; exact TR) hb)
    have aU := aM (Kd.R_below (by have X_ := av.out; exact TR) hb)
    have aW := aM (Kd.R_below (by have X_ := aw.out; exact TR) hb)
    have aS := aM (Kd.S_below (by have X_ := ax.out; exact TS) hb)
    have aT := aM (blk_below (by have X_ := aa.out; exact TX) hb)
    have aY := aM (blk_below (by have X_ := ab.out; exact TX) hb)
    have aR := aM (below_step TB hb)
    clear ac
    clear ad
    clear ag
    clear ae
    clear af
    clear ai
    clear ah
    clear ak
    clear aj
    clear al
    clear av
    clear aw
    clear ax
    clear aa
    clear ab
    clear HB
    have ac := n0_
    have ad := n1_
    have ag := n2_
    have ae := n3_
    have af := n4_
    have ai := n5_
    have ah := n6_
    have ak := n7_
    have aj := n8_
    have al := n9_
    have av := aU
    have aw := aW
    have ax := aS
    have aa := aT
    have ab := aY
    have HB := aR
    clear n0_ n1_ n2_ n3_ n4_ n5_ n6_ n7_ n8_ n9_ aU aW aS aT aY aR
    (try clear hb)
    (try clear hb2)
    (try clear hk)
    (try clear hi)
    refine hK.out _ _ ⟨(blk_cell ab.out 0).trans rfl, (blk_cell ab.out 1).trans rfl, (blk_cell ab.out 2).trans rfl, (blk_cell ab.out 3).trans rfl, (blk_cell ab.out 4).trans rfl, (blk_cell ab.out 5).trans rfl, (blk_cell aa.out 0).trans rfl, (blk_cell aa.out 1).trans rfl, (blk_cell aa.out 2).trans rfl, (blk_cell aa.out 3).trans rfl, (blk_cell aa.out 4).trans rfl, (blk_cell aa.out 5).trans rfl⟩ (fun hHeld => ?_)
    clear hK K
    refine nR ?_
    refine pP 4 (some 52) ?_
    refine done_ (by kernel_rfl) ?_
    try go_wp2_with (first | ((with_reducible refine gate_callee (f := 11) rfl ?_); refine gL (some 55) Try.func11 #[.slice A1 l1.length c1] ?_; (with_reducible refine (laws_toByteS.calls k _ _ l1 bp _ ?side1 ?side2 A26.out).mono ?_); (case side1 => have X_ := (Kd.C_below HR1.out HB.out); exact TC); (case side2 => exact HC1.out); rintro e w63 ⟨v459, rfl, ho0, hb⟩; refine ⟨_, rfl, ?_⟩; have HO460 := aM (Kd.R_lower (Kd.R_new' (Kd.R_new' (Kd.R_new' (Kd.R_new' (Kd.R_new' (Kd.R_new' (Kd.R_new' (Kd.R_new' (Kd.R_new' (Kd.R_new' ho0 (Kd.R_lt (by have X_ := ac.out; exact TR))) (Kd.R_lt (by have X_ := ad.out; exact TR))) (Kd.R_lt (by have X_ := ae.out; exact TR))) (Kd.R_lt (by have X_ := af.out; exact TR))) (Kd.R_lt (by have X_ := ai.out; exact TR))) (Kd.R_lt (by have X_ := ah.out; exact TR))) (Kd.R_lt (by have X_ := aj.out; exact TR))) (Kd.R_lt (by have X_ := al.out; exact TR))) (Kd.R_lt (by have X_ := av.out; exact TR))) (Kd.R_lt (by have X_ := aw.out; exact TR))) (below_size TB)); replace ac := aM (Kd.R_elder' (by have X_ := ac.out; exact TR) (Kd.R_base ho0) hb); replace ad := aM (Kd.R_elder' (by have X_ := ad.out; exact TR) (Kd.R_base ho0) hb); replace ag := aM (Kd.S_elder' (by have X_ := ag.out; exact TS) (Kd.R_base ho0) hb); replace ae := aM (Kd.R_elder' (by have X_ := ae.out; exact TR) (Kd.R_base ho0) hb); replace af := aM (Kd.R_elder' (by have X_ := af.out; exact TR) (Kd.R_base ho0) hb); replace ai := aM (Kd.R_elder' (by have X_ := ai.out; exact TR) (Kd.R_base ho0) hb); replace ah := aM (Kd.R_elder' (by have X_ := ah.out; exact TR) (Kd.R_base ho0) hb); replace ak := aM (Kd.S_elder' (by have X_ := ak.out; exact TS) (Kd.R_base ho0) hb); replace aj := aM (Kd.R_elder' (by have X_ := aj.out; exact TR) (Kd.R_base ho0) hb); replace al := aM (Kd.R_elder' (by have X_ := al.out; exact TR) (Kd.R_base ho0) hb); replace av := aM (Kd.R_elder' (by have X_ := av.out; exact TR) (Kd.R_base ho0) hb); replace aw := aM (Kd.R_elder' (by have X_ := aw.out; exact TR) (Kd.R_base ho0) hb); replace ax := aM (Kd.S_elder' (by have X_ := ax.out; exact TS) (Kd.R_base ho0) hb); replace aa := aM (blk_below (by have X_ := aa.out; exact TX) hb); replace ab := aM (blk_below (by have X_ := ab.out; exact TX) hb); replace HB := aM (below_step TB hb); clear ho0 hb; obtain ⟨Ao64, co64, eo64⟩ := Kd.R_slice HO460.out; subst eo64) | ((with_reducible refine gate_callee (f := 14) rfl ?_); refine gL (some 56) Try.func14 #[.slice Ao54 aV.length co54, .slice Ao64 bp.length co64] ?_; (with_reducible refine (laws_eqByteS.calls k _ _ aV _ _ bp true _ ?side1 ?side2 ?side3 ?side4 A27.out).mono ?_); (case side1 => have X_ := (Kd.R_reads' aj.out).2.2; exact TC); (case side2 => exact (Kd.R_reads' aj.out).2.1); (case side3 => have X_ := (Kd.R_reads' HO460.out).2.2; exact TC); (case side4 => exact (Kd.R_reads' HO460.out).2.1); rintro e w' ⟨rfl, ⟨nd, rfl⟩⟩; refine ⟨_, rfl, ?_⟩) | ((with_reducible refine gate_callee (f := 11) rfl ?_); refine gL (some 60) Try.func11 #[.slice A3 l3.length c3] ?_; (with_reducible refine (laws_toByteS.calls k _ _ l3 be _ ?side1 ?side2 A29.out).mono ?_); (case side1 => repeat (first | exact (Kd.C_below HR3.out TB) | (with_reducible refine Kd.C_alloc ?_ _) | (with_reducible refine Kd.C_drewN ?_ _) | (with_reducible refine Kd.C_drew ?_))); (case side2 => exact HC3.out); rintro e w65 ⟨v463, rfl, ho0, hb⟩; refine ⟨_, rfl, ?_⟩; have HO464 := aM (Kd.R_lower (Kd.R_new' (Kd.R_new' (Kd.R_new' (Kd.R_new' (Kd.R_new' (Kd.R_new' (Kd.R_new' (Kd.R_new' (Kd.R_new' (Kd.R_new' (Kd.R_new' ho0 (Kd.R_lt (by have X_ := ac.out; exact TR))) (Kd.R_lt (by have X_ := ad.out; exact TR))) (Kd.R_lt (by have X_ := ae.out; exact TR))) (Kd.R_lt (by have X_ := af.out; exact TR))) (Kd.R_lt (by have X_ := ai.out; exact TR))) (Kd.R_lt (by have X_ := ah.out; exact TR))) (Kd.R_lt (by have X_ := aj.out; exact TR))) (Kd.R_lt (by have X_ := al.out; exact TR))) (Kd.R_lt (by have X_ := av.out; exact TR))) (Kd.R_lt (by have X_ := aw.out; exact TR))) (Kd.R_lt (by have X_ := HO460.out; exact TR))) (below_size TB)); replace ac := aM (Kd.R_elder' (by have X_ := ac.out; exact TR) (Kd.R_base ho0) hb); replace ad := aM (Kd.R_elder' (by have X_ := ad.out; exact TR) (Kd.R_base ho0) hb); replace ag := aM (Kd.S_elder' (by have X_ := ag.out; exact TS) (Kd.R_base ho0) hb); replace ae := aM (Kd.R_elder' (by have X_ := ae.out; exact TR) (Kd.R_base ho0) hb); replace af := aM (Kd.R_elder' (by have X_ := af.out; exact TR) (Kd.R_base ho0) hb); replace ai := aM (Kd.R_elder' (by have X_ := ai.out; exact TR) (Kd.R_base ho0) hb); replace ah := aM (Kd.R_elder' (by have X_ := ah.out; exact TR) (Kd.R_base ho0) hb); replace ak := aM (Kd.S_elder' (by have X_ := ak.out; exact TS) (Kd.R_base ho0) hb); replace aj := aM (Kd.R_elder' (by have X_ := aj.out; exact TR) (Kd.R_base ho0) hb); replace al := aM (Kd.R_elder' (by have X_ := al.out; exact TR) (Kd.R_base ho0) hb); replace av := aM (Kd.R_elder' (by have X_ := av.out; exact TR) (Kd.R_base ho0) hb); replace aw := aM (Kd.R_elder' (by have X_ := aw.out; exact TR) (Kd.R_base ho0) hb); replace ax := aM (Kd.S_elder' (by have X_ := ax.out; exact TS) (Kd.R_base ho0) hb); replace HO460 := aM (Kd.R_elder' (by have X_ := HO460.out; exact TR) (Kd.R_base ho0) hb); replace aa := aM (blk_below (by have X_ := aa.out; exact TX) hb); replace ab := aM (blk_below (by have X_ := ab.out; exact TX) hb); replace HB := aM (below_step TB hb); clear ho0 hb; obtain ⟨Ao66, co66, eo66⟩ := Kd.R_slice HO464.out; subst eo66) | ((with_reducible refine gate_callee (f := 14) rfl ?_); refine gL (some 61) Try.func14 #[.slice Ao55 aZ.length co55, .slice Ao66 be.length co66] ?_; (with_reducible refine (laws_eqByteS.calls k _ _ aZ _ _ be true _ ?side1 ?side2 ?side3 ?side4 A30.out).mono ?_); (case side1 => have X_ := (Kd.R_reads' al.out).2.2; exact TC); (case side2 => exact (Kd.R_reads' al.out).2.1); (case side3 => have X_ := (Kd.R_reads' HO464.out).2.2; exact TC); (case side4 => exact (Kd.R_reads' HO464.out).2.1); rintro e w' ⟨rfl, ⟨nd, rfl⟩⟩; refine ⟨_, rfl, ?_⟩))
    go_ret
    exact ⟨by first | rfl | (simp [errW_none, errW_some] <;> rfl) | (simp [*, errW_none, errW_some] <;> rfl), TB⟩

end Go.Proofs.Ytlghklbjmmijpaa.Q
