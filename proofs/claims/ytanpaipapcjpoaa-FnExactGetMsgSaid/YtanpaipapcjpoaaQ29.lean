/- Functions of the program as plain Lean functions, and that a call of each comes to what its function tells. Written by a program of this seat. -/
import Derived.Test.YtanpaipapcjpoaaQ0
import Derived.Test.YtanpaipapcjpoaaQ11
import Derived.Test.YtanpaipapcjpoaaQ12
import Derived.Test.YtanpaipapcjpoaaQ25
import Derived.Test.YtanpaipapcjpoaaQ26
import Derived.Test.YtanpaipapcjpoaaQ27
import Derived.Test.YtanpaipapcjpoaaQ28
namespace Go.Proofs.Ytanpaipapcjpoaa.Q
open Go.RowKit Go.Proofs.YtanpaipapcjpoaaW.PrintWords Go.Proofs.YtanpaipapcjpoaaW.PrintLast Go.Proofs.YtanpaipapcjpoaaW.PrintMore
attribute [local go_sem] min2_int min_two
set_option linter.unusedVariables false
set_option linter.unusedSimpArgs false

mutual
def laws_FnExactGetMsg.j0 : Nat → List Int → Bool → List Int → Bool → Bool → Int → Int → Int → Int → Int → List (S83) → Int → Int → Int → List Int → Int → Int → Int → Int → Int → List (S83) → Int → Int → Int → List Int → Option (Bool)
  | 0, _, _, _, _, _, _, _, _, _, _, _, _, _, _, _, _, _, _, _, _, _, _, _, _, _ => none
  | k + 1, x0, x4, x5, x7, x37, x585000, x585001, x585002, x585003, x585004, x585005, x585006, x585007, x585008, x585009, x604000, x604001, x604002, x604003, x604004, x604005, x604006, x604007, x604008, x604009 => if x37 = true then (none) else ((laws_toByteS.f k x0).bind fun t605 => ((laws_eqByteS.f k x5 t605).bind fun t608 => (if t608 = true then ((laws_markByteS.f k x5 1).bind fun bt609 => (if bt609.1 < 0 then (none) else ((laws_eqMsg.f k x604000 x604001 x604002 x604003 x604004 x604005 x604006 x604007 x604008 x604009 x585000 x585001 x585002 x585003 x585004 x585005 x585006 x585007 x585008 x585009).bind fun t611 => (if t611 = true then (laws_FnExactGetMsg.j1 k x0 x4 (x7 != x4) x585000 x585001 x585002 x585003 x585004 x585005 x585006 x585007 x585008 x585009 x604000 x604001 x604002 x604003 x604004 x604005 x604006 x604007 x604008 x604009) else (none))))) else (none))))
def laws_FnExactGetMsg.j1 : Nat → List Int → Bool → Bool → Int → Int → Int → Int → Int → List (S83) → Int → Int → Int → List Int → Int → Int → Int → Int → Int → List (S83) → Int → Int → Int → List Int → Option (Bool)
  | 0, _, _, _, _, _, _, _, _, _, _, _, _, _, _, _, _, _, _, _, _, _, _, _ => none
  | k + 1, x0, x4, x58, x585000, x585001, x585002, x585003, x585004, x585005, x585006, x585007, x585008, x585009, x604000, x604001, x604002, x604003, x604004, x604005, x604006, x604007, x604008, x604009 => if x58 = true then (none) else ((laws_markMsg.f k x604000 x604001 x604002 x604003 x604004 x604005 x604006 x604007 x604008 x604009 1).bind fun bt612 => ((laws_heldMsg.f k x604000 x604001 x604002 x604003 x604004 bt612.2.1 x604006 x604007 x604008 bt612.2.2 1).bind fun t615 => (if t615 < 0 then (none) else (if t615 = bt612.1 then ((laws_toByteS.f k x0).bind fun t616 => ((impl_GetMsg.f k t616).bind fun bt619 => ((laws_eqMsg.f k bt619.1 bt619.2.1 bt619.2.2.1 bt619.2.2.2.1 bt619.2.2.2.2.1 bt619.2.2.2.2.2.1 bt619.2.2.2.2.2.2.1 bt619.2.2.2.2.2.2.2.1 bt619.2.2.2.2.2.2.2.2.1 bt619.2.2.2.2.2.2.2.2.2.1 x585000 x585001 x585002 x585003 x585004 x585005 x585006 x585007 x585008 x585009).bind fun t635 => (if t635 = true then (laws_FnExactGetMsg.j2 k bt612.1 (bt619.2.2.2.2.2.2.2.2.2.2 != x4) x604000 x604001 x604002 x604003 x604004 bt612.2.1 x604006 x604007 x604008 bt612.2.2) else (none))))) else (none)))))
def laws_FnExactGetMsg.j2 : Nat → Int → Bool → Int → Int → Int → Int → Int → List (S83) → Int → Int → Int → List Int → Option (Bool)
  | 0, _, _, _, _, _, _, _, _, _, _, _, _ => none
  | k + 1, x9, x84, x604000, x604001, x604002, x604003, x604004, x604005, x604006, x604007, x604008, x604009 => if x84 = true then (none) else ((laws_heldMsg.f k x604000 x604001 x604002 x604003 x604004 x604005 x604006 x604007 x604008 x604009 1).bind fun t636 => (if t636 < 0 then (none) else (if t636 = x9 then (some true) else (none))))
end
def laws_FnExactGetMsg.f (k : Nat) (l0 : List Int) : Option (Bool) := if (l0.length : Int) > 1048576 then (some true) else ((laws_toByteS.f k l0).bind fun t566 => ((spec_GetMsg.f k t566).bind fun bt569 => ((laws_toByteS.f k l0).bind fun t585 => ((impl_GetMsg.f k t585).bind fun bt588 => ((laws_eqMsg.f k bt588.1 bt588.2.1 bt588.2.2.1 bt588.2.2.2.1 bt588.2.2.2.2.1 bt588.2.2.2.2.2.1 bt588.2.2.2.2.2.2.1 bt588.2.2.2.2.2.2.2.1 bt588.2.2.2.2.2.2.2.2.1 bt588.2.2.2.2.2.2.2.2.2.1 bt569.1 bt569.2.1 bt569.2.2.1 bt569.2.2.2.1 bt569.2.2.2.2.1 bt569.2.2.2.2.2.1 bt569.2.2.2.2.2.2.1 bt569.2.2.2.2.2.2.2.1 bt569.2.2.2.2.2.2.2.2.1 bt569.2.2.2.2.2.2.2.2.2.1).bind fun t604 => (if t604 = true then (laws_FnExactGetMsg.j0 k l0 bt569.2.2.2.2.2.2.2.2.2.2 t585 bt588.2.2.2.2.2.2.2.2.2.2 (bt588.2.2.2.2.2.2.2.2.2.2 != bt569.2.2.2.2.2.2.2.2.2.2) bt569.1 bt569.2.1 bt569.2.2.1 bt569.2.2.2.1 bt569.2.2.2.2.1 bt569.2.2.2.2.2.1 bt569.2.2.2.2.2.2.1 bt569.2.2.2.2.2.2.2.1 bt569.2.2.2.2.2.2.2.2.1 bt569.2.2.2.2.2.2.2.2.2.1 bt588.1 bt588.2.1 bt588.2.2.1 bt588.2.2.2.1 bt588.2.2.2.2.1 bt588.2.2.2.2.2.1 bt588.2.2.2.2.2.2.1 bt588.2.2.2.2.2.2.2.1 bt588.2.2.2.2.2.2.2.2.1 bt588.2.2.2.2.2.2.2.2.2.1) else (none)))))))
theorem laws_FnExactGetMsg.mono_l : ∀ k, (∀ y0 y1 y2 y3 y4 y5 y6 y7 y8 y9 y10 y11 y12 y13 y14 y15 y16 y17 y18 y19 y20 y21 y22 y23 y24, LeO (laws_FnExactGetMsg.j0 k y0 y1 y2 y3 y4 y5 y6 y7 y8 y9 y10 y11 y12 y13 y14 y15 y16 y17 y18 y19 y20 y21 y22 y23 y24) (laws_FnExactGetMsg.j0 (k + 1) y0 y1 y2 y3 y4 y5 y6 y7 y8 y9 y10 y11 y12 y13 y14 y15 y16 y17 y18 y19 y20 y21 y22 y23 y24)) ∧ (∀ y0 y1 y2 y3 y4 y5 y6 y7 y8 y9 y10 y11 y12 y13 y14 y15 y16 y17 y18 y19 y20 y21 y22, LeO (laws_FnExactGetMsg.j1 k y0 y1 y2 y3 y4 y5 y6 y7 y8 y9 y10 y11 y12 y13 y14 y15 y16 y17 y18 y19 y20 y21 y22) (laws_FnExactGetMsg.j1 (k + 1) y0 y1 y2 y3 y4 y5 y6 y7 y8 y9 y10 y11 y12 y13 y14 y15 y16 y17 y18 y19 y20 y21 y22)) ∧ (∀ y0 y1 y2 y3 y4 y5 y6 y7 y8 y9 y10 y11, LeO (laws_FnExactGetMsg.j2 k y0 y1 y2 y3 y4 y5 y6 y7 y8 y9 y10 y11) (laws_FnExactGetMsg.j2 (k + 1) y0 y1 y2 y3 y4 y5 y6 y7 y8 y9 y10 y11))
  | 0 => ⟨fun _ _ _ _ _ _ _ _ _ _ _ _ _ _ _ _ _ _ _ _ _ _ _ _ _ r h => by simp [laws_FnExactGetMsg.j0] at h, fun _ _ _ _ _ _ _ _ _ _ _ _ _ _ _ _ _ _ _ _ _ _ _ r h => by simp [laws_FnExactGetMsg.j1] at h, fun _ _ _ _ _ _ _ _ _ _ _ _ r h => by simp [laws_FnExactGetMsg.j2] at h⟩
  | k + 1 => by
    have m0_ := @impl_GetMsg.mono
    have m1_ := @laws_eqByteS.mono
    have m2_ := @laws_eqMsg.mono
    have m3_ := @laws_heldMsg.mono
    have m4_ := @laws_markByteS.mono
    have m5_ := @laws_markMsg.mono
    have m6_ := @laws_toByteS.mono
    have m7_ := @spec_GetMsg.mono
    obtain ⟨ih0, ih1, ih2⟩ := laws_FnExactGetMsg.mono_l k
    refine ⟨?_, ?_, ?_⟩
    · intro y0 y1 y2 y3 y4 y5 y6 y7 y8 y9 y10 y11 y12 y13 y14 y15 y16 y17 y18 y19 y20 y21 y22 y23 y24
      unfold laws_FnExactGetMsg.j0
      exact LM
    · intro y0 y1 y2 y3 y4 y5 y6 y7 y8 y9 y10 y11 y12 y13 y14 y15 y16 y17 y18 y19 y20 y21 y22
      unfold laws_FnExactGetMsg.j1
      exact LM
    · intro y0 y1 y2 y3 y4 y5 y6 y7 y8 y9 y10 y11
      unfold laws_FnExactGetMsg.j2
      exact LM
theorem laws_FnExactGetMsg.mono : ∀ a0 k, LeO (laws_FnExactGetMsg.f k a0) (laws_FnExactGetMsg.f (k + 1) a0) := by
  intro a0 k;have m0_ := @impl_GetMsg.mono;have m1_ := @laws_eqByteS.mono;have m2_ := @laws_eqMsg.mono;have m3_ := @laws_heldMsg.mono;have m4_ := @laws_markByteS.mono;have m5_ := @laws_markMsg.mono;have m6_ := @laws_toByteS.mono;have m7_ := @spec_GetMsg.mono;obtain ⟨ih0, ih1, ih2⟩ := laws_FnExactGetMsg.mono_l k;unfold laws_FnExactGetMsg.f;exact LM
set_option maxHeartbeats 40000000 in
set_option maxRecDepth 100000 in
theorem laws_FnExactGetMsg.calls (k : Nat) (A0 : Option Addr) (c0 : Nat) (l0 : List Int) (r : Bool) (w : World) (hr0 : Kd.C (Kd.int .u8) w A0 l0.length l0) (hc0 : l0.length ≤ c0) (h : laws_FnExactGetMsg.f k l0 = some r) :
  Calls Try.prog 3 #[.slice A0 l0.length c0] w fun e w' => e = .returned (.bool r) ∧ Below w.heap.size w w' := by
 have hu27 := Try.underlying27;have HR0 := aM hr0;have HC0 := aM hc0;clear hr0 hc0;have HB := aM (Below.refl w.heap.size w);have H := h;clear h;unfold laws_FnExactGetMsg.f at H
 by_cases c2 : (l0.length : Int) > 1048576
 ·rw [if_pos c2] at H;have dk : decide (1048576 < (l0.length : Int)) = true := decide_eq_true c2;have di : decide (1048576 < l0.length) = true := decide_eq_true (by omega);clear c2;obtain rfl := Option.some.inj H;go_enter Try.func3, Try.ntmps3;go_wp2
  go_ret
  exact ⟨TE, TB⟩
 ·rw [if_neg c2] at H;have dk : decide (1048576 < (l0.length : Int)) = false := decide_eq_false c2;have di : decide (1048576 < l0.length) = false := decide_eq_false (by omega);clear c2;replace H := bE H;obtain ⟨cn, A3, H⟩ := H;replace H := bE H;obtain ⟨⟨au, av, az, aA, aC, ai, aD, aF, aI, al, bK⟩, A4, H⟩ := H;dsimp only at H;replace H := bE H;obtain ⟨ax, A5, H⟩ := H;replace H := bE H;obtain ⟨⟨an, ao, ap, aq, ar, ag, aw, ay, aB, ah, df⟩, A6, H⟩ := H;dsimp only at H;have HC7 := aM H;clear H;go_enter Try.func3, Try.ntmps3;go_upto_region 6 with (first | ((with_reducible refine gate_callee (f := 6) rfl ?_); refine gL (some 18) Try.func6 #[.slice A0 l0.length c0] ?_; (with_reducible refine (laws_toByteS.calls k _ _ l0 cn _ ?side1 ?side2 A3.out).mono ?_); (case side1 => have X_ := HR0.out; exact TC); (case side2 => exact HC0.out); rintro e w8 ⟨v567, rfl, ho0, hb⟩; refine ⟨_, rfl, ?_⟩; have HO568 := aM (Kd.R_lower ho0 (below_size TB)); replace HB := bS HB hb; clear ho0 hb; obtain ⟨Ao9, co9, eo9⟩ := Kd.R_slice HO568.out; subst eo9) | ((with_reducible refine gate_callee (f := 5) rfl ?_); refine gL (some 19) Try.func5 #[.slice Ao9 cn.length co9] ?_; (with_reducible refine (spec_GetMsg.calls k _ _ cn au av az aA aC ai aD aF aI al bK _ ?side1 ?side2 A4.out).mono ?_); (case side1 => have X_ := (Kd.R_reads' HO568.out).2.2; exact TC); (case side2 => exact (Kd.R_reads' HO568.out).2.1); rintro e w10 ⟨v575, v581, rfl, ho0, ho1, hb⟩; refine ⟨_, rfl, ?_⟩; have HO576 := aM (Kd.R_lower ho0 (below_size TB)); have HO582 := aM (Kd.R_lower (Kd.R_new' ho1 (Kd.R_lt (TRf HO568))) (below_size TB)); replace HO568 := aM (Kd.R_elder' (TRf HO568) (Kd.R_base ho1) hb); replace HB := bS HB hb; clear ho0 ho1 hb) | ((with_reducible refine gate_dst (N := 3) rfl ?_); refine gBx 3 #[.int .i64 0, .int .i64 0, .int .i64 0, .int .i64 0, .int .i64 0, .slice none 0 0, .int .i64 0, .int .i64 0, .int .i64 0, .slice none 0 0] 27 ?_; intro gb584 hg w11 hbox hb; have af := aM (hbox); have GW584 := gW HB hg; have GE584 := gW HB hg; replace HO568 := mR HO568 hb; replace HO576 := mR HO576 hb; replace HO582 := mR HO582 hb; replace HB := bS HB hb; clear hb hbox hg; obtain ⟨bu, bW, bl, bD, bG, bR, a7, bA, bI, bg⟩ := cz10 af.out; obtain ⟨bU, a1, bp, aY, b3, bL, a9, bF, aX, aZ⟩ := fz10 af.out; obtain ⟨Ao13, co13, eo13⟩ := Kd.R_slice HO576.out; subst eo13; obtain ⟨Ao14, co14, eo14⟩ := Kd.R_slice HO582.out; subst eo14) | ((with_reducible refine gate_callee (f := 6) rfl ?_); refine gL (some 23) Try.func6 #[.slice A0 l0.length c0] ?_; (with_reducible refine (laws_toByteS.calls k _ _ l0 ax _ ?side1 ?side2 A5.out).mono ?_); (case side1 => exact Kd.C_below HR0.out TB); (case side2 => exact HC0.out); rintro e w15 ⟨v586, rfl, ho0, hb⟩; refine ⟨_, rfl, ?_⟩; have HO587 := aM (Kd.R_lower (Kd.R_new' (Kd.R_new' ho0 (Kd.R_lt (TY HO568 af))) (Kd.R_lt (TY HO582 af))) (below_size TB)); replace HO568 := aM (Kd.R_elder' (TY HO568 af) (Kd.R_base ho0) hb); replace HO576 := aM (Kd.R_below (TY HO576 af) hb); replace HO582 := aM (Kd.R_elder' (TY HO582 af) (Kd.R_base ho0) hb); replace af := aM (blk_below (g := gb584) (o := .cells #[.int .i64 au, .int .i64 av, .int .i64 az, .int .i64 aA, .int .i64 aC, .slice Ao13 ai.length co13, .int .i64 aD, .int .i64 aF, .int .i64 aI, .slice Ao14 al.length co14] 27 (0, 0)) (blk_put (cs := #[.int .i64 au, .int .i64 av, .int .i64 az, .int .i64 aA, .int .i64 aC, .slice Ao13 ai.length co13, .int .i64 aD, .int .i64 aF, .int .i64 aI, .slice none 0 0]) (blk_put (cs := #[.int .i64 au, .int .i64 av, .int .i64 az, .int .i64 aA, .int .i64 aC, .slice Ao13 ai.length co13, .int .i64 aD, .int .i64 aF, .int .i64 0, .slice none 0 0]) (blk_put (cs := #[.int .i64 au, .int .i64 av, .int .i64 az, .int .i64 aA, .int .i64 aC, .slice Ao13 ai.length co13, .int .i64 aD, .int .i64 0, .int .i64 0, .slice none 0 0]) (blk_put (cs := #[.int .i64 au, .int .i64 av, .int .i64 az, .int .i64 aA, .int .i64 aC, .slice Ao13 ai.length co13, .int .i64 0, .int .i64 0, .int .i64 0, .slice none 0 0]) (blk_put (cs := #[.int .i64 au, .int .i64 av, .int .i64 az, .int .i64 aA, .int .i64 aC, .slice none 0 0, .int .i64 0, .int .i64 0, .int .i64 0, .slice none 0 0]) (blk_put (cs := #[.int .i64 au, .int .i64 av, .int .i64 az, .int .i64 aA, .int .i64 0, .slice none 0 0, .int .i64 0, .int .i64 0, .int .i64 0, .slice none 0 0]) (blk_put (cs := #[.int .i64 au, .int .i64 av, .int .i64 az, .int .i64 0, .int .i64 0, .slice none 0 0, .int .i64 0, .int .i64 0, .int .i64 0, .slice none 0 0]) (blk_put (cs := #[.int .i64 au, .int .i64 av, .int .i64 0, .int .i64 0, .int .i64 0, .slice none 0 0, .int .i64 0, .int .i64 0, .int .i64 0, .slice none 0 0]) (blk_put (cs := #[.int .i64 au, .int .i64 0, .int .i64 0, .int .i64 0, .int .i64 0, .slice none 0 0, .int .i64 0, .int .i64 0, .int .i64 0, .slice none 0 0]) (blk_put (cs := #[.int .i64 0, .int .i64 0, .int .i64 0, .int .i64 0, .int .i64 0, .slice none 0 0, .int .i64 0, .int .i64 0, .int .i64 0, .slice none 0 0]) (TZ af) 0 _ rfl) 1 _ rfl) 2 _ rfl) 3 _ rfl) 4 _ rfl) 5 _ rfl) 6 _ rfl) 7 _ rfl) 8 _ rfl) 9 _ rfl) hb); replace HB := bS HB hb; clear ho0 hb; obtain ⟨Ao16, co16, eo16⟩ := Kd.R_slice HO587.out; subst eo16) | ((with_reducible refine gate_callee (f := 7) rfl ?_); refine gL (some 26) Try.func7 #[.slice Ao16 ax.length co16] ?_; (with_reducible refine (impl_GetMsg.calls k _ _ ax an ao ap aq ar ag aw ay aB ah df _ ?side1 ?side2 A6.out).mono ?_); (case side1 => have X_ := (Kd.R_reads' HO587.out).2.2; exact TC); (case side2 => exact (Kd.R_reads' HO587.out).2.1); rintro e w17 ⟨v594, v600, rfl, ho0, ho1, hb⟩; refine ⟨_, rfl, ?_⟩; have HO595 := aM (Kd.R_lower (Kd.R_new' ho0 (Kd.R_lt (TRf HO576))) (below_size TB)); have HO601 := aM (Kd.R_lower (Kd.R_new' (Kd.R_new' (Kd.R_new' ho1 (Kd.R_lt (TRf HO568))) (Kd.R_lt (TRf HO582))) (Kd.R_lt (TRf HO587))) (below_size TB)); replace HO568 := aM (Kd.R_elder' (TRf HO568) (Kd.R_base ho1) hb); replace HO576 := aM (Kd.R_elder' (TRf HO576) (Kd.R_base ho0) hb); replace HO582 := aM (Kd.R_elder' (TRf HO582) (Kd.R_base ho1) hb); replace HO587 := aM (Kd.R_elder' (TRf HO587) (Kd.R_base ho1) hb); replace af := mB af hb; replace HB := bS HB hb; clear ho0 ho1 hb) | ((with_reducible refine gate_dst (N := 6) rfl ?_); refine gBx 6 #[.int .i64 0, .int .i64 0, .int .i64 0, .int .i64 0, .int .i64 0, .slice none 0 0, .int .i64 0, .int .i64 0, .int .i64 0, .slice none 0 0] 27 ?_; intro gb603 hg w18 hbox hb; have ae := aM (hbox); have GW603 := gW HB hg; have GE603 := gW HB hg; obtain ⟨NB584_603, NB603_584⟩ := nB af hg; replace HO568 := mR HO568 hb; replace HO576 := mR HO576 hb; replace HO582 := mR HO582 hb; replace HO587 := mR HO587 hb; replace HO595 := mR HO595 hb; replace HO601 := mR HO601 hb; replace af := mB af hb; replace HB := bS HB hb; clear hb hbox hg; obtain ⟨hnb19, hnc19⟩ := oB NB603_584; obtain ⟨bq, b2, bC, b1, b8, bh, bP, bB, ch, bn⟩ := cz10 ae.out; obtain ⟨aW, bw, cb, cj, bY, b7, b6, bf, a6, bO⟩ := fz10 ae.out; obtain ⟨Ao21, co21, eo21⟩ := Kd.R_slice HO595.out; subst eo21; obtain ⟨Ao22, co22, eo22⟩ := Kd.R_slice HO601.out; subst eo22))
  (try simp only [NP])
  go_cut [37] (fun v37 wc => ∃ (kq : Nat) (dj : Bool), v37 = .bool dj ∧ Aside0 (laws_FnExactGetMsg.j0 kq l0 bK ax df dj au av az aA aC ai aD aF aI al an ao ap aq ar ag aw ay aB ah = some r) ∧ Aside0 (kq ≤ k) ∧ Aside0 (Kd.R (Kd.int .u8) 5 wc w.heap.size (fun k_ => some k_ ≠ ((.slice Ao14 al.length co14) : Value).ownBlock ∧ some k_ ≠ ((.slice Ao22 ah.length co22) : Value).ownBlock) (.slice Ao16 ax.length co16) ax) ∧ Aside0 (Kd.R k83 83 wc w.heap.size (fun k_ => some k_ ≠ ((.slice Ao21 ag.length co21) : Value).ownBlock) (.slice Ao13 ai.length co13) ai) ∧ Aside0 (Kd.R (Kd.int .u8) 5 wc w.heap.size (fun k_ => some k_ ≠ ((.slice Ao16 ax.length co16) : Value).ownBlock ∧ some k_ ≠ ((.slice Ao22 ah.length co22) : Value).ownBlock) (.slice Ao14 al.length co14) al) ∧ Aside0 (Kd.R k83 83 wc w.heap.size (fun k_ => some k_ ≠ ((.slice Ao13 ai.length co13) : Value).ownBlock) (.slice Ao21 ag.length co21) ag) ∧ Aside0 (Kd.R (Kd.int .u8) 5 wc w.heap.size (fun k_ => some k_ ≠ ((.slice Ao16 ax.length co16) : Value).ownBlock ∧ some k_ ≠ ((.slice Ao14 al.length co14) : Value).ownBlock) (.slice Ao22 ah.length co22) ah) ∧ Aside0 (wc.heap[gb584]? = some (.cells #[.int .i64 au, .int .i64 av, .int .i64 az, .int .i64 aA, .int .i64 aC, (.slice Ao13 ai.length co13), .int .i64 aD, .int .i64 aF, .int .i64 aI, (.slice Ao14 al.length co14)] 27 (0, 0))) ∧ Aside0 (wc.heap[gb603]? = some (.cells #[.int .i64 an, .int .i64 ao, .int .i64 ap, .int .i64 aq, .int .i64 ar, (.slice Ao21 ag.length co21), .int .i64 aw, .int .i64 ay, .int .i64 aB, (.slice Ao22 ah.length co22)] 27 (0, 0))) ∧ Aside0 (Below w.heap.size w wc))
  case first =>
   have H := HC7.out;clear HC7;replace H := bE H;obtain ⟨t604, A23, H⟩ := H;replace H := ifN H;obtain ⟨c24, H⟩ := H;subst c24;have H' := aM H;clear H;obtain ⟨hnb25, hnc25⟩ := oB NB603_584;obtain ⟨br, bH, ba, ci, bk, bj, cf, aV, ca, bx⟩ := cz10 ae.out;obtain ⟨bc, bV, bT, b0, ce, bt, a5, cd, be, bZ⟩ := fz10 ae.out;obtain ⟨bs, bX, bd, a4, bJ, bQ, cg, bi, b4, b9⟩ := cz10 af.out;obtain ⟨bv, a2, bz, cc, bm, bM, bo, a3, bN, a8⟩ := fz10 af.out;go_wp2_with (first | ((with_reducible refine gate_callee (f := 8) rfl ?_); refine gL (some 31) Try.func8 #[.agg #[.int .i64 an, .int .i64 ao, .int .i64 ap, .int .i64 aq, .int .i64 ar, .slice Ao21 ag.length co21, .int .i64 aw, .int .i64 ay, .int .i64 aB, .slice Ao22 ah.length co22], .agg #[.int .i64 au, .int .i64 av, .int .i64 az, .int .i64 aA, .int .i64 aC, .slice Ao13 ai.length co13, .int .i64 aD, .int .i64 aF, .int .i64 aI, .slice Ao14 al.length co14]] ?_; (with_reducible refine (laws_eqMsg.calls k an ao ap aq ar _ _ ag aw ay aB _ _ ah au av az aA aC _ _ ai aD aF aI _ _ al true _ ?side1 ?side2 ?side3 ?side4 ?side5 ?side6 ?side7 ?side8 A23.out).mono ?_); (case side1 => refine (Kd.R_reads' (e := 83) (base := w.heap.size) (ok := fun k_ => (True ∧ some k_ ≠ (.slice Ao13 ai.length co13 : Value).ownBlock)) (n := ag.length) (c := co21) ?_).2.2; exact (TY HO595 ae)); (case side2 => exact (Kd.R_reads' HO595.out).2.1); (case side3 => refine (Kd.R_reads' (e := 5) (base := w.heap.size) (ok := fun k_ => (((True ∧ some k_ ≠ (.slice Ao9 cn.length co9 : Value).ownBlock) ∧ some k_ ≠ (.slice Ao14 al.length co14 : Value).ownBlock) ∧ some k_ ≠ (.slice Ao16 ax.length co16 : Value).ownBlock)) (n := ah.length) (c := co22) ?_).2.2; exact (TY HO601 ae)); (case side4 => exact (Kd.R_reads' HO601.out).2.1); (case side5 => refine (Kd.R_reads' (e := 83) (base := w.heap.size) (ok := fun k_ => (True ∧ some k_ ≠ (.slice Ao21 ag.length co21 : Value).ownBlock)) (n := ai.length) (c := co13) ?_).2.2; exact (TY HO576 ae)); (case side6 => exact (Kd.R_reads' HO576.out).2.1); (case side7 => refine (Kd.R_reads' (e := 5) (base := w.heap.size) (ok := fun k_ => (((True ∧ some k_ ≠ (.slice Ao9 cn.length co9 : Value).ownBlock) ∧ some k_ ≠ (.slice Ao16 ax.length co16 : Value).ownBlock) ∧ some k_ ≠ (.slice Ao22 ah.length co22 : Value).ownBlock)) (n := al.length) (c := co14) ?_).2.2; exact (TY HO582 ae)); (case side8 => exact (Kd.R_reads' HO582.out).2.1); rintro e w28 ⟨rfl, hb⟩; refine ⟨_, rfl, ?_⟩; replace HO568 := aM (Kd.R_below (TY HO568 ae) hb); replace HO576 := aM (Kd.R_below (TY HO576 ae) hb); replace HO582 := aM (Kd.R_below (TY HO582 ae) hb); replace HO587 := aM (Kd.R_below (TY HO587 ae) hb); replace HO595 := aM (Kd.R_below (TY HO595 ae) hb); replace HO601 := aM (Kd.R_below (TY HO601 ae) hb); replace af := mB af hb; replace ae := aM (blk_below (g := gb603) (o := .cells #[.int .i64 an, .int .i64 ao, .int .i64 ap, .int .i64 aq, .int .i64 ar, .slice Ao21 ag.length co21, .int .i64 aw, .int .i64 ay, .int .i64 aB, .slice Ao22 ah.length co22] 27 (0, 0)) (blk_put (cs := #[.int .i64 an, .int .i64 ao, .int .i64 ap, .int .i64 aq, .int .i64 ar, .slice Ao21 ag.length co21, .int .i64 aw, .int .i64 ay, .int .i64 aB, .slice none 0 0]) (blk_put (cs := #[.int .i64 an, .int .i64 ao, .int .i64 ap, .int .i64 aq, .int .i64 ar, .slice Ao21 ag.length co21, .int .i64 aw, .int .i64 ay, .int .i64 0, .slice none 0 0]) (blk_put (cs := #[.int .i64 an, .int .i64 ao, .int .i64 ap, .int .i64 aq, .int .i64 ar, .slice Ao21 ag.length co21, .int .i64 aw, .int .i64 0, .int .i64 0, .slice none 0 0]) (blk_put (cs := #[.int .i64 an, .int .i64 ao, .int .i64 ap, .int .i64 aq, .int .i64 ar, .slice Ao21 ag.length co21, .int .i64 0, .int .i64 0, .int .i64 0, .slice none 0 0]) (blk_put (cs := #[.int .i64 an, .int .i64 ao, .int .i64 ap, .int .i64 aq, .int .i64 ar, .slice none 0 0, .int .i64 0, .int .i64 0, .int .i64 0, .slice none 0 0]) (blk_put (cs := #[.int .i64 an, .int .i64 ao, .int .i64 ap, .int .i64 aq, .int .i64 0, .slice none 0 0, .int .i64 0, .int .i64 0, .int .i64 0, .slice none 0 0]) (blk_put (cs := #[.int .i64 an, .int .i64 ao, .int .i64 ap, .int .i64 0, .int .i64 0, .slice none 0 0, .int .i64 0, .int .i64 0, .int .i64 0, .slice none 0 0]) (blk_put (cs := #[.int .i64 an, .int .i64 ao, .int .i64 0, .int .i64 0, .int .i64 0, .slice none 0 0, .int .i64 0, .int .i64 0, .int .i64 0, .slice none 0 0]) (blk_put (cs := #[.int .i64 an, .int .i64 0, .int .i64 0, .int .i64 0, .int .i64 0, .slice none 0 0, .int .i64 0, .int .i64 0, .int .i64 0, .slice none 0 0]) (blk_put (cs := #[.int .i64 0, .int .i64 0, .int .i64 0, .int .i64 0, .int .i64 0, .slice none 0 0, .int .i64 0, .int .i64 0, .int .i64 0, .slice none 0 0]) (TZ ae) 0 _ rfl) 1 _ rfl) 2 _ rfl) 3 _ rfl) 4 _ rfl) 5 _ rfl) 6 _ rfl) 7 _ rfl) 8 _ rfl) 9 _ rfl) hb); replace HB := bS HB hb; clear hb))
   go_meet
   case rel => exact ⟨_, ((df != bK)), TF, H', ⟨by first | omega | exact Nat.le_refl _⟩, ⟨by (with_reducible repeat (first | apply Kd.R_alloc | apply Kd.R_drewN | apply Kd.R_drew)); exact Kd.R_mono HO587.out (fun _ hk => ⟨hk.1.2, hk.2⟩)⟩, ⟨by (with_reducible repeat (first | apply Kd.R_alloc | apply Kd.R_drewN | apply Kd.R_drew)); exact Kd.R_mono HO576.out (fun _ hk => hk.2)⟩, ⟨by (with_reducible repeat (first | apply Kd.R_alloc | apply Kd.R_drewN | apply Kd.R_drew)); exact Kd.R_mono HO582.out (fun _ hk => ⟨hk.1.2, hk.2⟩)⟩, ⟨by (with_reducible repeat (first | apply Kd.R_alloc | apply Kd.R_drewN | apply Kd.R_drew)); exact Kd.R_mono HO595.out (fun _ hk => hk.2)⟩, ⟨by (with_reducible repeat (first | apply Kd.R_alloc | apply Kd.R_drewN | apply Kd.R_drew)); exact Kd.R_mono HO601.out (fun _ hk => ⟨hk.2, hk.1.2⟩)⟩, ⟨TK⟩, ⟨TK⟩, ⟨TB⟩⟩
  case rest =>
   clear HC7;try clear c1
   try clear c2
   try clear dk
   try clear di
   try clear p2
   try clear c3
   try clear c5
   try clear c6
   try clear c7
   try clear c8
   try clear c19
   try clear c24
   try clear c25
   try clear bu
   try clear bW
   try clear bl
   try clear bD
   try clear bG
   try clear bR
   try clear a7
   try clear bA
   try clear bI
   try clear bg
   try clear bq
   try clear b2
   try clear bC
   try clear b1
   try clear b8
   try clear bh
   try clear bP
   try clear bB
   try clear ch
   try clear bn
   try clear br
   try clear bH
   try clear ba
   try clear ci
   try clear bk
   try clear bj
   try clear cf
   try clear aV
   try clear ca
   try clear bx
   try clear bs
   try clear bX
   try clear bd
   try clear a4
   try clear bJ
   try clear bQ
   try clear cg
   try clear bi
   try clear b4
   try clear b9
   try clear bU
   try clear a1
   try clear bp
   try clear aY
   try clear b3
   try clear bL
   try clear a9
   try clear bF
   try clear aX
   try clear aZ
   try clear aW
   try clear bw
   try clear cb
   try clear cj
   try clear bY
   try clear b7
   try clear b6
   try clear bf
   try clear a6
   try clear bO
   try clear bc
   try clear bV
   try clear bT
   try clear b0
   try clear ce
   try clear bt
   try clear a5
   try clear cd
   try clear be
   try clear bZ
   try clear bv
   try clear a2
   try clear bz
   try clear cc
   try clear bm
   try clear bM
   try clear bo
   try clear a3
   try clear bN
   try clear a8
   obtain ⟨kq, dj, rfl, HA, HJ6, aH, ad, ac, ab, aa, af, ae, HB⟩ := hcut;cases kq with
   | zero => exact absurd HA.out (by simp [laws_FnExactGetMsg.j0])
   | succ kj6 =>
    have H := HA.out;clear HA;simp only [laws_FnExactGetMsg.j0] at H;replace H := ifM H;obtain ⟨c29, H⟩ := H;replace c29 := Bool.eq_false_iff.mpr c29;subst c29;replace H := bE H;obtain ⟨cp, A30, H⟩ := H;replace H := bE H;obtain ⟨t608, A31, H⟩ := H;replace H := ifN H;obtain ⟨c32, H⟩ := H;subst c32;replace H := bE H;obtain ⟨⟨t609, t610⟩, A33, H⟩ := H;dsimp only at H;have dl := aM H;clear H;go_upto_region 12 with (first | ((with_reducible refine gate_callee (f := 6) rfl ?_); refine gL (some 40) Try.func6 #[.slice A0 l0.length c0] ?_; (with_reducible refine (laws_toByteS.calls kj6 _ _ l0 cp _ ?side1 ?side2 A30.out).mono ?_); (case side1 => have X_ := (Kd.C_below HR0.out HB.out); exact TC); (case side2 => exact HC0.out); rintro e w35 ⟨v606, rfl, ho0, hb⟩; refine ⟨_, rfl, ?_⟩; have HO607 := aM (Kd.R_lower (Kd.R_new' (Kd.R_new' (Kd.R_new' ho0 (Kd.R_lt (TRf aH))) (Kd.R_lt (TRf ac))) (Kd.R_lt (TRf aa))) (below_size TB)); replace aH := aM (Kd.R_elder' (TRf aH) (Kd.R_base ho0) hb); replace ad := mR ad hb; replace ac := aM (Kd.R_elder' (TRf ac) (Kd.R_base ho0) hb); replace ab := mR ab hb; replace aa := aM (Kd.R_elder' (TRf aa) (Kd.R_base ho0) hb); replace af := mB af hb; replace ae := mB ae hb; replace HB := bS HB hb; clear ho0 hb; obtain ⟨Ao36, co36, eo36⟩ := Kd.R_slice HO607.out; subst eo36) | ((with_reducible refine gate_callee (f := 9) rfl ?_); refine gL (some 41) Try.func9 #[.slice Ao16 ax.length co16, .slice Ao36 cp.length co36] ?_; (with_reducible refine (laws_eqByteS.calls kj6 _ _ ax _ _ cp true _ ?side1 ?side2 ?side3 ?side4 A31.out).mono ?_); (case side1 => have X_ := (Kd.R_reads' aH.out).2.2; exact TC); (case side2 => exact (Kd.R_reads' aH.out).2.1); (case side3 => have X_ := (Kd.R_reads' HO607.out).2.2; exact TC); (case side4 => exact (Kd.R_reads' HO607.out).2.1); rintro e w' ⟨rfl, ⟨nd, rfl⟩⟩; refine ⟨_, rfl, ?_⟩) | ((with_reducible refine gate_callee (f := 10) rfl ?_); refine gL (some 45) Try.func10 #[.slice Ao16 ax.length co16, .int .i64 1] ?_; (with_reducible refine (laws_markByteS.calls kj6 (fun k_ => some k_ = (.slice Ao16 ax.length co16 : Value).ownBlock) (.slice Ao16 ax.length co16) ax 1 t609 t610 w _ ?side1 ?side2 A33.out).mono ?_); (case side1 => exact TB); (case side2 => exact Kd.R_tight rfl aH.out); rintro e w37 ⟨rfl, hy0, hb, hkp⟩; refine ⟨_, rfl, ?_⟩; replace ad := aM (Kd.R_mono (ok' := fun k_ => some k_ ≠ (.slice Ao21 ag.length co21 : Value).ownBlock) (Kd.R_keptB ((Kd.R_apart' ad.out (Kd.R_typed aH.out) (by decide))) hkp (fun k_ hk_ hs_ => (hk_.2) hs_)) (fun k_ hk_ => hk_.1.1)); replace ac := aM (Kd.R_mono (ok' := fun k_ => some k_ ≠ (.slice Ao16 ax.length co16 : Value).ownBlock ∧ some k_ ≠ (.slice Ao22 ah.length co22 : Value).ownBlock ∧ some k_ ≠ (.slice Ao36 cp.length co36 : Value).ownBlock) (Kd.R_keptB (ac.out) hkp (fun k_ hk_ hs_ => (hk_.1.1) hs_)) (fun k_ hk_ => ⟨hk_.1.1.1, hk_.1.1.2, hk_.1.2⟩)); replace ab := aM (Kd.R_mono (ok' := fun k_ => some k_ ≠ (.slice Ao13 ai.length co13 : Value).ownBlock) (Kd.R_keptB ((Kd.R_apart' ab.out (Kd.R_typed aH.out) (by decide))) hkp (fun k_ hk_ hs_ => (hk_.2) hs_)) (fun k_ hk_ => hk_.1.1)); replace aa := aM (Kd.R_mono (ok' := fun k_ => some k_ ≠ (.slice Ao16 ax.length co16 : Value).ownBlock ∧ some k_ ≠ (.slice Ao14 al.length co14 : Value).ownBlock ∧ some k_ ≠ (.slice Ao36 cp.length co36 : Value).ownBlock) (Kd.R_keptB (aa.out) hkp (fun k_ hk_ hs_ => (hk_.1.1) hs_)) (fun k_ hk_ => ⟨hk_.1.1.1, hk_.1.1.2, hk_.1.2⟩)); replace af := aM (blk_kept TK hkp (fun hs_ => (fun e_ => (Kd.R_ne aH.out af.out (by decide)) e_) hs_)); replace ae := aM (blk_kept TK hkp (fun hs_ => (fun e_ => (Kd.R_ne aH.out ae.out (by decide)) e_) hs_)); replace aH := aM (Kd.R_reok rfl hy0 (fun k_ e_ => aH.out.1 k_ e_)); replace HO607 := aM (Kd.R_mono (ok' := fun k_ => some k_ ≠ (.slice Ao16 ax.length co16 : Value).ownBlock ∧ some k_ ≠ (.slice Ao14 al.length co14 : Value).ownBlock ∧ some k_ ≠ (.slice Ao22 ah.length co22 : Value).ownBlock) (Kd.R_keptB (HO607.out) hkp (fun k_ hk_ hs_ => (hk_.1.1.2) hs_)) (fun k_ hk_ => ⟨hk_.1.1.1.2, hk_.1.1.2, hk_.1.2⟩)); replace HB := aM (hb); clear hb; (try clear hkp); (try clear hy0)))
    (try simp only [NP])
    go_cut [58] (fun v58 wc => ∃ (kq : Nat) (cl : Bool), v58 = .bool cl ∧ Aside0 (laws_FnExactGetMsg.j1 kq l0 bK cl au av az aA aC ai aD aF aI al an ao ap aq ar ag aw ay aB ah = some r) ∧ Aside0 (kq ≤ kj6) ∧ Aside0 (Kd.R k83 83 wc w.heap.size (fun k_ => some k_ ≠ ((.slice Ao21 ag.length co21) : Value).ownBlock) (.slice Ao13 ai.length co13) ai) ∧ Aside0 (Kd.R (Kd.int .u8) 5 wc w.heap.size (fun k_ => some k_ ≠ ((.slice Ao22 ah.length co22) : Value).ownBlock) (.slice Ao14 al.length co14) al) ∧ Aside0 (Kd.R k83 83 wc w.heap.size (fun k_ => some k_ ≠ ((.slice Ao13 ai.length co13) : Value).ownBlock) (.slice Ao21 ag.length co21) ag) ∧ Aside0 (Kd.R (Kd.int .u8) 5 wc w.heap.size (fun k_ => some k_ ≠ ((.slice Ao14 al.length co14) : Value).ownBlock) (.slice Ao22 ah.length co22) ah) ∧ Aside0 (wc.heap[gb584]? = some (.cells #[.int .i64 au, .int .i64 av, .int .i64 az, .int .i64 aA, .int .i64 aC, (.slice Ao13 ai.length co13), .int .i64 aD, .int .i64 aF, .int .i64 aI, (.slice Ao14 al.length co14)] 27 (0, 0))) ∧ Aside0 (wc.heap[gb603]? = some (.cells #[.int .i64 an, .int .i64 ao, .int .i64 ap, .int .i64 aq, .int .i64 ar, (.slice Ao21 ag.length co21), .int .i64 aw, .int .i64 ay, .int .i64 aB, (.slice Ao22 ah.length co22)] 27 (0, 0))) ∧ Aside0 (Below w.heap.size w wc))
    case first =>
     have H := dl.out;clear dl;replace H := ifM H;obtain ⟨c38, H⟩ := H;have ck : decide (t609 < 0) = false := decide_eq_false c38;clear c38;(first | rw [ck] | (simp only [i64_w, i32_w]; rw [ck]) | skip);replace H := bE H;obtain ⟨t611, A39, H⟩ := H;replace H := ifN H;obtain ⟨c40, H⟩ := H;subst c40;have H' := aM H;clear H;obtain ⟨hnb41, hnc41⟩ := oB NB603_584;obtain ⟨cW, cY, cG, cr, dc, cw, cB, cZ, cA, da⟩ := cz10 ae.out;obtain ⟨cz, cL, db, cJ, cU, cv, cu, cx, de, cT⟩ := fz10 ae.out;obtain ⟨cO, cH, cQ, cq, ct, cy, cV, cD, cC, cM⟩ := cz10 af.out;obtain ⟨cP, cX, cR, cS, cN, cK, dd, cF, cI, cE⟩ := fz10 af.out;go_wp2_with (first | (go_at_call 8; (with_reducible refine (laws_eqMsg.calls kj6 an ao ap aq ar _ _ ag aw ay aB _ _ ah au av az aA aC _ _ ai aD aF aI _ _ al true _ ?side1 ?side2 ?side3 ?side4 ?side5 ?side6 ?side7 ?side8 A39.out).mono ?_); (case side1 => have X_ := (Kd.R_reads' ab.out).2.2; exact TC); (case side2 => exact (Kd.R_reads' ab.out).2.1); (case side3 => have X_ := (Kd.R_reads' aa.out).2.2; exact TC); (case side4 => exact (Kd.R_reads' aa.out).2.1); (case side5 => have X_ := (Kd.R_reads' ad.out).2.2; exact TC); (case side6 => exact (Kd.R_reads' ad.out).2.1); (case side7 => have X_ := (Kd.R_reads' ac.out).2.2; exact TC); (case side8 => exact (Kd.R_reads' ac.out).2.1); rintro e w44 ⟨rfl, hb⟩; replace aH := mR aH hb; replace ad := mR ad hb; replace ac := mR ac hb; replace ab := mR ab hb; replace aa := mR aa hb; replace HO607 := mR HO607 hb; replace af := mB af hb; replace ae := mB ae hb; replace HB := bS HB hb; clear hb))
     go_meet
     case rel => exact ⟨_, ((df != bK)), TF, H', ⟨by have := HJ6.out; first | omega | exact Nat.le_refl _⟩, ⟨by have X_ := ad.out; exact TR⟩, ⟨by (with_reducible repeat (first | apply Kd.R_alloc | apply Kd.R_drewN | apply Kd.R_drew)); exact Kd.R_mono ac.out (fun _ hk => hk.2.1)⟩, ⟨by have X_ := ab.out; exact TR⟩, ⟨by (with_reducible repeat (first | apply Kd.R_alloc | apply Kd.R_drewN | apply Kd.R_drew)); exact Kd.R_mono aa.out (fun _ hk => hk.2.1)⟩, ⟨TK⟩, ⟨TK⟩, ⟨TB⟩⟩
    case rest =>
     clear dl;try clear c1
     try clear c2
     try clear dk
     try clear di
     try clear p2
     try clear c3
     try clear c4
     try clear c5
     try clear c6
     try clear c7
     try clear c8
     try clear c9
     try clear c10
     try clear c19
     try clear c24
     try clear c25
     try clear c29
     try clear c32
     try clear c38
     try clear ck
     try clear c40
     try clear c41
     try clear bu
     try clear bW
     try clear bl
     try clear bD
     try clear bG
     try clear bR
     try clear a7
     try clear bA
     try clear bI
     try clear bg
     try clear bq
     try clear b2
     try clear bC
     try clear b1
     try clear b8
     try clear bh
     try clear bP
     try clear bB
     try clear ch
     try clear bn
     try clear br
     try clear bH
     try clear ba
     try clear ci
     try clear bk
     try clear bj
     try clear cf
     try clear aV
     try clear ca
     try clear bx
     try clear bs
     try clear bX
     try clear bd
     try clear a4
     try clear bJ
     try clear bQ
     try clear cg
     try clear bi
     try clear b4
     try clear b9
     try clear cW
     try clear cY
     try clear cG
     try clear cr
     try clear dc
     try clear cw
     try clear cB
     try clear cZ
     try clear cA
     try clear da
     try clear cO
     try clear cH
     try clear cQ
     try clear cq
     try clear ct
     try clear cy
     try clear cV
     try clear cD
     try clear cC
     try clear cM
     try clear bU
     try clear a1
     try clear bp
     try clear aY
     try clear b3
     try clear bL
     try clear a9
     try clear bF
     try clear aX
     try clear aZ
     try clear aW
     try clear bw
     try clear cb
     try clear cj
     try clear bY
     try clear b7
     try clear b6
     try clear bf
     try clear a6
     try clear bO
     try clear bc
     try clear bV
     try clear bT
     try clear b0
     try clear ce
     try clear bt
     try clear a5
     try clear cd
     try clear be
     try clear bZ
     try clear bv
     try clear a2
     try clear bz
     try clear cc
     try clear bm
     try clear bM
     try clear bo
     try clear a3
     try clear bN
     try clear a8
     try clear cz
     try clear cL
     try clear db
     try clear cJ
     try clear cU
     try clear cv
     try clear cu
     try clear cx
     try clear de
     try clear cT
     try clear cP
     try clear cX
     try clear cR
     try clear cS
     try clear cN
     try clear cK
     try clear dd
     try clear cF
     try clear cI
     try clear cE
     try clear p2
     obtain ⟨kq, cl, rfl, HA, HJ33, ad, ac, ab, aa, af, ae, HB⟩ := hcut;cases kq with
     | zero => exact absurd HA.out (by simp [laws_FnExactGetMsg.j1])
     | succ kj33 =>
      have H := HA.out;clear HA;simp only [laws_FnExactGetMsg.j1] at H;replace H := ifM H;obtain ⟨c45, H⟩ := H;replace c45 := Bool.eq_false_iff.mpr c45;subst c45;replace H := bE H;obtain ⟨⟨bb, aS, aR⟩, A46, H⟩ := H;dsimp only at H;replace H := bE H;obtain ⟨dh, A47, H⟩ := H;replace H := ifM H;obtain ⟨c48, H⟩ := H;have c48b0 : decide (dh < 0) = false := decide_eq_false c48;clear c48;replace H := ifN H;obtain ⟨c49, H⟩ := H;have c49b0 : (dh == bb) = true := beq_iff_eq.mpr c49;have c49b1 : (dh != bb) = false := bne_eq_false_iff_eq.mpr c49;clear c49;replace H := bE H;obtain ⟨cm, A50, H⟩ := H;replace H := bE H;obtain ⟨⟨aG, aJ, aK, aL, aQ, aE, aT, aU, b5, aN, t633⟩, A51, H⟩ := H;dsimp only at H;have dm := aM H;clear H;obtain ⟨hnb53, hnc53⟩ := oB NB603_584;obtain ⟨eX, eV, dT, eB, ea, dw, el, eZ, eS, eh⟩ := cz10 ae.out;obtain ⟨dC, eI, dv, eN, dR, dE, dO, et, dr, dt⟩ := fz10 ae.out;go_upto_region 23 with (first | ((with_reducible refine gate_callee (f := 11) rfl ?_); refine gL (some 61) Try.func11 #[.agg #[.int .i64 an, .int .i64 ao, .int .i64 ap, .int .i64 aq, .int .i64 ar, .slice Ao21 ag.length co21, .int .i64 aw, .int .i64 ay, .int .i64 aB, .slice Ao22 ah.length co22], .int .i64 1] ?_; (with_reducible refine (laws_markMsg.calls kj33 an ao ap aq ar (fun k_ => some k_ = (.slice Ao21 ag.length co21 : Value).ownBlock) (.slice Ao21 ag.length co21) ag aw ay aB (fun k_ => some k_ = (.slice Ao22 ah.length co22 : Value).ownBlock) (.slice Ao22 ah.length co22) ah 1 bb aS aR w _ ?side1 ?side2 ?side3 A46.out).mono ?_); (case side1 => exact TB); (case side2 => exact Kd.R_tight rfl ab.out); (case side3 => exact Kd.R_tight rfl aa.out); rintro e w55 ⟨rfl, hy0, hy1, hb, hkp⟩; refine ⟨_, rfl, ?_⟩; replace ad := aM (Kd.R_mono (ok' := fun k_ => some k_ ≠ (.slice Ao21 ag.length co21 : Value).ownBlock) (Kd.R_keptB ((Kd.R_apart' ad.out (Kd.R_typed aa.out) (by decide))) hkp (fun k_ hk_ hs_ => Or.elim hs_ (fun e_ => (hk_.1) e_) (fun e_ => (hk_.2) e_))) (fun k_ hk_ => hk_.1.1)); replace ac := aM (Kd.R_mono (ok' := fun k_ => some k_ ≠ (.slice Ao22 ah.length co22 : Value).ownBlock) (Kd.R_keptB ((Kd.R_apart' ac.out (Kd.R_typed ab.out) (by decide))) hkp (fun k_ hk_ hs_ => Or.elim hs_ (fun e_ => (hk_.2) e_) (fun e_ => (hk_.1) e_))) (fun k_ hk_ => hk_.1.1)); replace af := aM (blk_kept TK hkp (fun hs_ => Or.elim hs_ (fun e_ => (fun e_ => (Kd.R_ne ab.out af.out (by decide)) e_) e_) (fun e_ => (fun e_ => (Kd.R_ne aa.out af.out (by decide)) e_) e_))); replace ae := aM (blk_kept TK hkp (fun hs_ => Or.elim hs_ (fun e_ => (fun e_ => (Kd.R_ne ab.out ae.out (by decide)) e_) e_) (fun e_ => (fun e_ => (Kd.R_ne aa.out ae.out (by decide)) e_) e_))); replace ab := aM (Kd.R_reok rfl hy0 (fun k_ e_ => ab.out.1 k_ e_)); replace aa := aM (Kd.R_reok rfl hy1 (fun k_ e_ => aa.out.1 k_ e_)); replace HB := aM (hb); clear hb; (try clear hkp); (try clear hy0); (try clear hy1); obtain ⟨eP, eu, en, eY, ed, dy, dx, d5, dL, dK⟩ := cz10 ae.out; obtain ⟨es, eG, ee, eU, d3, ej, ew, dN, ec, eH⟩ := fz10 ae.out) | ((with_reducible refine gate_callee (f := 12) rfl ?_); refine goesL_ (some 64) rfl rfl Try.func12 (by kernel_rfl) rfl #[.agg #[.int .i64 an, .int .i64 ao, .int .i64 ap, .int .i64 aq, .int .i64 ar, .slice Ao21 aS.length co21, .int .i64 aw, .int .i64 ay, .int .i64 aB, .slice Ao22 aR.length co22], .int .i64 1] rfl (by (try simp only [List.map_toArray, List.map_cons, List.map_nil]); first | done | (rw [show aS.length = ag.length from (Kd.R_reads' ab.out).1.symm, show aR.length = ah.length from (Kd.R_reads' aa.out).1.symm] <;> rfl) | rfl | (simp only [List.length_drop, List.length_take]; rfl)) ?_; (with_reducible refine (laws_heldMsg.calls kj33 an ao ap aq ar _ _ aS aw ay aB _ _ aR 1 dh _ ?side1 ?side2 ?side3 ?side4 A47.out).mono ?_); (case side1 => have X_ := (Kd.R_reads' ab.out).2.2; exact TC); (case side2 => rw [show aS.length = ag.length from (Kd.R_reads' ab.out).1.symm]; exact (Kd.R_reads' ab.out).2.1); (case side3 => have X_ := (Kd.R_reads' aa.out).2.2; exact TC); (case side4 => rw [show aR.length = ah.length from (Kd.R_reads' aa.out).1.symm]; exact (Kd.R_reads' aa.out).2.1); rintro e w57 ⟨rfl, hb⟩; refine ⟨_, rfl, ?_⟩; replace ad := mR ad hb; replace ac := mR ac hb; replace ab := mR ab hb; replace aa := mR aa hb; replace af := mB af hb; replace ae := mB ae hb; replace HB := bS HB hb; clear hb) | ((with_reducible refine gate_callee (f := 6) rfl ?_); refine gL (some 72) Try.func6 #[.slice A0 l0.length c0] ?_; (with_reducible refine (laws_toByteS.calls kj33 _ _ l0 cm _ ?side1 ?side2 A50.out).mono ?_); (case side1 => have X_ := (Kd.C_below HR0.out HB.out); exact TC); (case side2 => exact HC0.out); rintro e w58 ⟨v617, rfl, ho0, hb⟩; refine ⟨_, rfl, ?_⟩; have HO618 := aM (Kd.R_lower (Kd.R_new' (Kd.R_new' ho0 (Kd.R_lt (TRf ac))) (Kd.R_lt (TRf aa))) (below_size TB)); replace ad := mR ad hb; replace ac := aM (Kd.R_elder' (TRf ac) (Kd.R_base ho0) hb); replace ab := mR ab hb; replace aa := aM (Kd.R_elder' (TRf aa) (Kd.R_base ho0) hb); replace af := mB af hb; replace ae := mB ae hb; replace HB := bS HB hb; clear ho0 hb; obtain ⟨Ao59, co59, eo59⟩ := Kd.R_slice HO618.out; subst eo59) | ((with_reducible refine gate_callee (f := 7) rfl ?_); refine gL (some 73) Try.func7 #[.slice Ao59 cm.length co59] ?_; (with_reducible refine (impl_GetMsg.calls kj33 _ _ cm aG aJ aK aL aQ aE aT aU b5 aN t633 _ ?side1 ?side2 A51.out).mono ?_); (case side1 => have X_ := (Kd.R_reads' HO618.out).2.2; exact TC); (case side2 => exact (Kd.R_reads' HO618.out).2.1); rintro e w60 ⟨v625, v631, rfl, ho0, ho1, hb⟩; refine ⟨_, rfl, ?_⟩; have HO626 := aM (Kd.R_lower (Kd.R_new' (Kd.R_new' ho0 (Kd.R_lt (TRf ad))) (Kd.R_lt (TRf ab))) (below_size TB)); have HO632 := aM (Kd.R_lower (Kd.R_new' (Kd.R_new' (Kd.R_new' ho1 (Kd.R_lt (TRf ac))) (Kd.R_lt (TRf aa))) (Kd.R_lt (TRf HO618))) (below_size TB)); replace ad := aM (Kd.R_elder' (TRf ad) (Kd.R_base ho0) hb); replace ac := aM (Kd.R_elder' (TRf ac) (Kd.R_base ho1) hb); replace ab := aM (Kd.R_elder' (TRf ab) (Kd.R_base ho0) hb); replace aa := aM (Kd.R_elder' (TRf aa) (Kd.R_base ho1) hb); replace HO618 := aM (Kd.R_elder' (TRf HO618) (Kd.R_base ho1) hb); replace af := mB af hb; replace ae := mB ae hb; replace HB := bS HB hb; clear ho0 ho1 hb) | ((with_reducible refine gate_dst (N := 11) rfl ?_); refine gBx 11 #[.int .i64 0, .int .i64 0, .int .i64 0, .int .i64 0, .int .i64 0, .slice none 0 0, .int .i64 0, .int .i64 0, .int .i64 0, .slice none 0 0] 27 ?_; intro gb634 hg w61 hbox hb; have am := aM (hbox); have GW634 := gW HB hg; have GE634 := gW HB hg; obtain ⟨NB584_634, NB634_584⟩ := nB af hg; obtain ⟨NB603_634, NB634_603⟩ := nB ae hg; replace ad := mR ad hb; replace ac := mR ac hb; replace ab := mR ab hb; replace aa := mR aa hb; replace HO618 := mR HO618 hb; replace HO626 := mR HO626 hb; replace HO632 := mR HO632 hb; replace af := mB af hb; replace ae := mB ae hb; replace HB := bS HB hb; clear hb hbox hg; obtain ⟨hnb62, hnc62⟩ := oB NB634_584; obtain ⟨hnb63, hnc63⟩ := oB NB634_603; obtain ⟨eW, eJ, dF, dH, eg, ds, d9, dI, dV, ep⟩ := cz10 am.out; obtain ⟨eb, eE, ex, eF, dS, eD, eC, ef, dM, d0⟩ := fz10 am.out; obtain ⟨Ao65, co65, eo65⟩ := Kd.R_slice HO626.out; subst eo65; obtain ⟨Ao66, co66, eo66⟩ := Kd.R_slice HO632.out; subst eo66))
      (try simp only [NP])
      go_cut [84] (fun v84 wc => ∃ (kq : Nat) (co : Bool), v84 = .bool co ∧ Aside0 (laws_FnExactGetMsg.j2 kq bb co an ao ap aq ar aS aw ay aB aR = some r) ∧ Aside0 (kq ≤ kj33) ∧ Aside0 (Kd.R k83 83 wc w.heap.size (fun k_ => some k_ ≠ ((.slice Ao21 ag.length co21) : Value).ownBlock ∧ some k_ ≠ ((.slice Ao65 aE.length co65) : Value).ownBlock) (.slice Ao13 ai.length co13) ai) ∧ Aside0 (Kd.R (Kd.int .u8) 5 wc w.heap.size (fun k_ => some k_ ≠ ((.slice Ao22 ah.length co22) : Value).ownBlock ∧ some k_ ≠ ((.slice Ao66 aN.length co66) : Value).ownBlock) (.slice Ao14 al.length co14) al) ∧ Aside0 (Kd.R k83 83 wc w.heap.size (fun k_ => some k_ ≠ ((.slice Ao13 ai.length co13) : Value).ownBlock ∧ some k_ ≠ ((.slice Ao65 aE.length co65) : Value).ownBlock) (.slice Ao21 ag.length co21) aS) ∧ Aside0 (Kd.R (Kd.int .u8) 5 wc w.heap.size (fun k_ => some k_ ≠ ((.slice Ao14 al.length co14) : Value).ownBlock ∧ some k_ ≠ ((.slice Ao66 aN.length co66) : Value).ownBlock) (.slice Ao22 ah.length co22) aR) ∧ Aside0 (Kd.R k83 83 wc w.heap.size (fun k_ => some k_ ≠ ((.slice Ao13 ai.length co13) : Value).ownBlock ∧ some k_ ≠ ((.slice Ao21 ag.length co21) : Value).ownBlock) (.slice Ao65 aE.length co65) aE) ∧ Aside0 (Kd.R (Kd.int .u8) 5 wc w.heap.size (fun k_ => some k_ ≠ ((.slice Ao14 al.length co14) : Value).ownBlock ∧ some k_ ≠ ((.slice Ao22 ah.length co22) : Value).ownBlock) (.slice Ao66 aN.length co66) aN) ∧ Aside0 (wc.heap[gb584]? = some (.cells #[.int .i64 au, .int .i64 av, .int .i64 az, .int .i64 aA, .int .i64 aC, (.slice Ao13 ai.length co13), .int .i64 aD, .int .i64 aF, .int .i64 aI, (.slice Ao14 al.length co14)] 27 (0, 0))) ∧ Aside0 (wc.heap[gb603]? = some (.cells #[.int .i64 an, .int .i64 ao, .int .i64 ap, .int .i64 aq, .int .i64 ar, (.slice Ao21 ag.length co21), .int .i64 aw, .int .i64 ay, .int .i64 aB, (.slice Ao22 ah.length co22)] 27 (0, 0))) ∧ Aside0 (wc.heap[gb634]? = some (.cells #[.int .i64 aG, .int .i64 aJ, .int .i64 aK, .int .i64 aL, .int .i64 aQ, (.slice Ao65 aE.length co65), .int .i64 aT, .int .i64 aU, .int .i64 b5, (.slice Ao66 aN.length co66)] 27 (0, 0))) ∧ Aside0 (Below w.heap.size w wc))
      case first =>
       have H := dm.out;clear dm;replace H := bE H;obtain ⟨t635, A67, H⟩ := H;replace H := ifN H;obtain ⟨c68, H⟩ := H;subst c68;have H' := aM H;clear H;obtain ⟨hnb69, hnc69⟩ := oB NB634_584;obtain ⟨hnb70, hnc70⟩ := oB NB634_603;obtain ⟨dA, dJ, dU, eT, d4, ez, eQ, dn, du, d8⟩ := cz10 am.out;obtain ⟨eR, dz, dP, d1, er, dW, dQ, eq, ek, ey⟩ := fz10 am.out;obtain ⟨hnb72, hnc72⟩ := oB NB584_603;obtain ⟨dB, dZ, eL, dY, ei, eA, eM, dp, em, d6⟩ := cz10 af.out;obtain ⟨eK, d7, eO, dD, dq, d2, dX, eo, dG, ev⟩ := fz10 af.out;go_wp2_with (first | ((with_reducible refine gate_callee (f := 8) rfl ?_); refine gL (some 78) Try.func8 #[.agg #[.int .i64 aG, .int .i64 aJ, .int .i64 aK, .int .i64 aL, .int .i64 aQ, .slice Ao65 aE.length co65, .int .i64 aT, .int .i64 aU, .int .i64 b5, .slice Ao66 aN.length co66], .agg #[.int .i64 au, .int .i64 av, .int .i64 az, .int .i64 aA, .int .i64 aC, .slice Ao13 ai.length co13, .int .i64 aD, .int .i64 aF, .int .i64 aI, .slice Ao14 al.length co14]] ?_; (with_reducible refine (laws_eqMsg.calls kj33 aG aJ aK aL aQ _ _ aE aT aU b5 _ _ aN au av az aA aC _ _ ai aD aF aI _ _ al true _ ?side1 ?side2 ?side3 ?side4 ?side5 ?side6 ?side7 ?side8 A67.out).mono ?_); (case side1 => refine (Kd.R_reads' (e := 83) (base := w.heap.size) (ok := fun k_ => ((True ∧ some k_ ≠ (.slice Ao13 ai.length co13 : Value).ownBlock) ∧ some k_ ≠ (.slice Ao21 ag.length co21 : Value).ownBlock)) (n := aE.length) (c := co65) ?_).2.2; exact (TY HO626 am)); (case side2 => exact (Kd.R_reads' HO626.out).2.1); (case side3 => refine (Kd.R_reads' (e := 5) (base := w.heap.size) (ok := fun k_ => (((True ∧ some k_ ≠ (.slice Ao14 al.length co14 : Value).ownBlock) ∧ some k_ ≠ (.slice Ao22 ah.length co22 : Value).ownBlock) ∧ some k_ ≠ (.slice Ao59 cm.length co59 : Value).ownBlock)) (n := aN.length) (c := co66) ?_).2.2; exact (TY HO632 am)); (case side4 => exact (Kd.R_reads' HO632.out).2.1); (case side5 => refine (Kd.R_reads' (e := 83) (base := w.heap.size) (ok := fun k_ => (some k_ ≠ (.slice Ao21 ag.length co21 : Value).ownBlock ∧ some k_ ≠ (.slice Ao65 aE.length co65 : Value).ownBlock)) (n := ai.length) (c := co13) ?_).2.2; exact (TY ad am)); (case side6 => exact (Kd.R_reads' ad.out).2.1); (case side7 => refine (Kd.R_reads' (e := 5) (base := w.heap.size) (ok := fun k_ => ((some k_ ≠ (.slice Ao22 ah.length co22 : Value).ownBlock ∧ some k_ ≠ (.slice Ao59 cm.length co59 : Value).ownBlock) ∧ some k_ ≠ (.slice Ao66 aN.length co66 : Value).ownBlock)) (n := al.length) (c := co14) ?_).2.2; exact (TY ac am)); (case side8 => exact (Kd.R_reads' ac.out).2.1); rintro e w74 ⟨rfl, hb⟩; refine ⟨_, rfl, ?_⟩; replace ad := aM (Kd.R_below (TY ad am) hb); replace ac := aM (Kd.R_below (TY ac am) hb); replace ab := aM (Kd.R_below (TY ab am) hb); replace aa := aM (Kd.R_below (TY aa am) hb); replace HO618 := aM (Kd.R_below (TY HO618 am) hb); replace HO626 := aM (Kd.R_below (TY HO626 am) hb); replace HO632 := aM (Kd.R_below (TY HO632 am) hb); replace af := mB af hb; replace ae := mB ae hb; replace am := aM (blk_below (g := gb634) (o := .cells #[.int .i64 aG, .int .i64 aJ, .int .i64 aK, .int .i64 aL, .int .i64 aQ, .slice Ao65 aE.length co65, .int .i64 aT, .int .i64 aU, .int .i64 b5, .slice Ao66 aN.length co66] 27 (0, 0)) (blk_put (cs := #[.int .i64 aG, .int .i64 aJ, .int .i64 aK, .int .i64 aL, .int .i64 aQ, .slice Ao65 aE.length co65, .int .i64 aT, .int .i64 aU, .int .i64 b5, .slice none 0 0]) (blk_put (cs := #[.int .i64 aG, .int .i64 aJ, .int .i64 aK, .int .i64 aL, .int .i64 aQ, .slice Ao65 aE.length co65, .int .i64 aT, .int .i64 aU, .int .i64 0, .slice none 0 0]) (blk_put (cs := #[.int .i64 aG, .int .i64 aJ, .int .i64 aK, .int .i64 aL, .int .i64 aQ, .slice Ao65 aE.length co65, .int .i64 aT, .int .i64 0, .int .i64 0, .slice none 0 0]) (blk_put (cs := #[.int .i64 aG, .int .i64 aJ, .int .i64 aK, .int .i64 aL, .int .i64 aQ, .slice Ao65 aE.length co65, .int .i64 0, .int .i64 0, .int .i64 0, .slice none 0 0]) (blk_put (cs := #[.int .i64 aG, .int .i64 aJ, .int .i64 aK, .int .i64 aL, .int .i64 aQ, .slice none 0 0, .int .i64 0, .int .i64 0, .int .i64 0, .slice none 0 0]) (blk_put (cs := #[.int .i64 aG, .int .i64 aJ, .int .i64 aK, .int .i64 aL, .int .i64 0, .slice none 0 0, .int .i64 0, .int .i64 0, .int .i64 0, .slice none 0 0]) (blk_put (cs := #[.int .i64 aG, .int .i64 aJ, .int .i64 aK, .int .i64 0, .int .i64 0, .slice none 0 0, .int .i64 0, .int .i64 0, .int .i64 0, .slice none 0 0]) (blk_put (cs := #[.int .i64 aG, .int .i64 aJ, .int .i64 0, .int .i64 0, .int .i64 0, .slice none 0 0, .int .i64 0, .int .i64 0, .int .i64 0, .slice none 0 0]) (blk_put (cs := #[.int .i64 aG, .int .i64 0, .int .i64 0, .int .i64 0, .int .i64 0, .slice none 0 0, .int .i64 0, .int .i64 0, .int .i64 0, .slice none 0 0]) (blk_put (cs := #[.int .i64 0, .int .i64 0, .int .i64 0, .int .i64 0, .int .i64 0, .slice none 0 0, .int .i64 0, .int .i64 0, .int .i64 0, .slice none 0 0]) (TZ am) 0 _ rfl) 1 _ rfl) 2 _ rfl) 3 _ rfl) 4 _ rfl) 5 _ rfl) 6 _ rfl) 7 _ rfl) 8 _ rfl) 9 _ rfl) hb); replace HB := bS HB hb; clear hb))
       go_meet
       case rel => exact ⟨_, ((t633 != bK)), TF, H', ⟨by have := HJ6.out; have := HJ33.out; first | omega | exact Nat.le_refl _⟩, ⟨by have X_ := ad.out; exact TR⟩, ⟨by (with_reducible repeat (first | apply Kd.R_alloc | apply Kd.R_drewN | apply Kd.R_drew)); exact Kd.R_mono ac.out (fun _ hk => ⟨hk.1.1, hk.2⟩)⟩, ⟨by have X_ := ab.out; exact TR⟩, ⟨by (with_reducible repeat (first | apply Kd.R_alloc | apply Kd.R_drewN | apply Kd.R_drew)); exact Kd.R_mono aa.out (fun _ hk => ⟨hk.1.1, hk.2⟩)⟩, ⟨by (with_reducible repeat (first | apply Kd.R_alloc | apply Kd.R_drewN | apply Kd.R_drew)); exact Kd.R_mono HO626.out (fun _ hk => ⟨hk.1.2, hk.2⟩)⟩, ⟨by (with_reducible repeat (first | apply Kd.R_alloc | apply Kd.R_drewN | apply Kd.R_drew)); exact Kd.R_mono HO632.out (fun _ hk => ⟨hk.1.1.2, hk.1.2⟩)⟩, ⟨TK⟩, ⟨TK⟩, ⟨TK⟩, ⟨TB⟩⟩
      case rest =>
       clear dm;try clear c1
       try clear c2
       try clear dk
       try clear di
       try clear p2
       try clear c3
       try clear c4
       try clear c5
       try clear c6
       try clear c7
       try clear c8
       try clear c9
       try clear c10
       try clear c11
       try clear c12
       try clear c19
       try clear c24
       try clear c25
       try clear c29
       try clear c32
       try clear c38
       try clear ck
       try clear c40
       try clear c41
       try clear c45
       try clear c48
       try clear c48b0
       try clear c49
       try clear c49b0
       try clear c49b1
       try clear c53
       try clear c62
       try clear c63
       try clear c68
       try clear c69
       try clear c70
       try clear c72
       try clear bu
       try clear bW
       try clear bl
       try clear bD
       try clear bG
       try clear bR
       try clear a7
       try clear bA
       try clear bI
       try clear bg
       try clear bq
       try clear b2
       try clear bC
       try clear b1
       try clear b8
       try clear bh
       try clear bP
       try clear bB
       try clear ch
       try clear bn
       try clear br
       try clear bH
       try clear ba
       try clear ci
       try clear bk
       try clear bj
       try clear cf
       try clear aV
       try clear ca
       try clear bx
       try clear bs
       try clear bX
       try clear bd
       try clear a4
       try clear bJ
       try clear bQ
       try clear cg
       try clear bi
       try clear b4
       try clear b9
       try clear cW
       try clear cY
       try clear cG
       try clear cr
       try clear dc
       try clear cw
       try clear cB
       try clear cZ
       try clear cA
       try clear da
       try clear cO
       try clear cH
       try clear cQ
       try clear cq
       try clear ct
       try clear cy
       try clear cV
       try clear cD
       try clear cC
       try clear cM
       try clear eX
       try clear eV
       try clear dT
       try clear eB
       try clear ea
       try clear dw
       try clear el
       try clear eZ
       try clear eS
       try clear eh
       try clear eP
       try clear eu
       try clear en
       try clear eY
       try clear ed
       try clear dy
       try clear dx
       try clear d5
       try clear dL
       try clear dK
       try clear eW
       try clear eJ
       try clear dF
       try clear dH
       try clear eg
       try clear ds
       try clear d9
       try clear dI
       try clear dV
       try clear ep
       try clear dA
       try clear dJ
       try clear dU
       try clear eT
       try clear d4
       try clear ez
       try clear eQ
       try clear dn
       try clear du
       try clear d8
       try clear dB
       try clear dZ
       try clear eL
       try clear dY
       try clear ei
       try clear eA
       try clear eM
       try clear dp
       try clear em
       try clear d6
       try clear bU
       try clear a1
       try clear bp
       try clear aY
       try clear b3
       try clear bL
       try clear a9
       try clear bF
       try clear aX
       try clear aZ
       try clear aW
       try clear bw
       try clear cb
       try clear cj
       try clear bY
       try clear b7
       try clear b6
       try clear bf
       try clear a6
       try clear bO
       try clear bc
       try clear bV
       try clear bT
       try clear b0
       try clear ce
       try clear bt
       try clear a5
       try clear cd
       try clear be
       try clear bZ
       try clear bv
       try clear a2
       try clear bz
       try clear cc
       try clear bm
       try clear bM
       try clear bo
       try clear a3
       try clear bN
       try clear a8
       try clear cz
       try clear cL
       try clear db
       try clear cJ
       try clear cU
       try clear cv
       try clear cu
       try clear cx
       try clear de
       try clear cT
       try clear cP
       try clear cX
       try clear cR
       try clear cS
       try clear cN
       try clear cK
       try clear dd
       try clear cF
       try clear cI
       try clear cE
       try clear dC
       try clear eI
       try clear dv
       try clear eN
       try clear dR
       try clear dE
       try clear dO
       try clear et
       try clear dr
       try clear dt
       try clear es
       try clear eG
       try clear ee
       try clear eU
       try clear d3
       try clear ej
       try clear ew
       try clear dN
       try clear ec
       try clear eH
       try clear eb
       try clear eE
       try clear ex
       try clear eF
       try clear dS
       try clear eD
       try clear eC
       try clear ef
       try clear dM
       try clear d0
       try clear eR
       try clear dz
       try clear dP
       try clear d1
       try clear er
       try clear dW
       try clear dQ
       try clear eq
       try clear ek
       try clear ey
       try clear eK
       try clear d7
       try clear eO
       try clear dD
       try clear dq
       try clear d2
       try clear dX
       try clear eo
       try clear dG
       try clear ev
       try clear p2
       obtain ⟨kq, co, rfl, HA, HJ51, ad, ac, ab, aa, aP, aO, af, ae, am, HB⟩ := hcut;have aj := (Kd.R_reads' ab.out).1;rw [aj] at ab;(try simp only [aj]);(try simp only [aj] at af);(try simp only [aj] at ae);(try simp only [aj] at am);(try simp only [aj] at ad);(try simp only [aj] at ac);(try simp only [aj] at aa);(try simp only [aj] at aP);(try simp only [aj] at aO);have ak := (Kd.R_reads' aa.out).1;rw [ak] at aa;(try simp only [ak]);(try simp only [ak] at af);(try simp only [ak] at ae);(try simp only [ak] at am);(try simp only [ak] at ad);(try simp only [ak] at ac);(try simp only [ak] at ab);(try simp only [ak] at aP);(try simp only [ak] at aO);cases kq with
       | zero => exact absurd HA.out (by simp [laws_FnExactGetMsg.j2])
       | succ kj51 =>
        have H := HA.out;clear HA;simp only [laws_FnExactGetMsg.j2] at H;replace H := ifM H;obtain ⟨c75, H⟩ := H;replace c75 := Bool.eq_false_iff.mpr c75;subst c75;replace H := bE H;obtain ⟨dg, A76, H⟩ := H;replace H := ifM H;obtain ⟨c77, H⟩ := H;have c77b0 : decide (dg < 0) = false := decide_eq_false c77;clear c77;replace H := ifN H;obtain ⟨c78, H⟩ := H;have c78b0 : (dg == bb) = true := beq_iff_eq.mpr c78;have c78b1 : (dg != bb) = false := bne_eq_false_iff_eq.mpr c78;clear c78;obtain rfl := Option.some.inj H;obtain ⟨hnb79, hnc79⟩ := oB NB603_584;obtain ⟨hnb80, hnc80⟩ := oB NB603_634;obtain ⟨hcz81_0, hcz81_1, hcz81_2, hcz81_3, hcz81_4, hcz81_5, hcz81_6, hcz81_7, hcz81_8, hcz81_9⟩ := cz10 ae.out;obtain ⟨hfz81_0, hfz81_1, hfz81_2, hfz81_3, hfz81_4, hfz81_5, hfz81_6, hfz81_7, hfz81_8, hfz81_9⟩ := fz10 ae.out;go_wp2_with (first | ((with_reducible refine gate_callee (f := 12) rfl ?_); refine gL (some 87) Try.func12 #[.agg #[.int .i64 an, .int .i64 ao, .int .i64 ap, .int .i64 aq, .int .i64 ar, .slice Ao21 aS.length co21, .int .i64 aw, .int .i64 ay, .int .i64 aB, .slice Ao22 aR.length co22], .int .i64 1] ?_; (with_reducible refine (laws_heldMsg.calls kj51 an ao ap aq ar _ _ aS aw ay aB _ _ aR 1 dg _ ?side1 ?side2 ?side3 ?side4 A76.out).mono ?_); (case side1 => have X_ := (Kd.R_reads' ab.out).2.2; exact TC); (case side2 => exact (Kd.R_reads' ab.out).2.1); (case side3 => have X_ := (Kd.R_reads' aa.out).2.2; exact TC); (case side4 => exact (Kd.R_reads' aa.out).2.1); rintro e w82 ⟨rfl, hb⟩; refine ⟨_, rfl, ?_⟩; replace ad := mR ad hb; replace ac := mR ac hb; replace ab := mR ab hb; replace aa := mR aa hb; replace aP := mR aP hb; replace aO := mR aO hb; replace af := mB af hb; replace ae := mB ae hb; replace am := mB am hb; replace HB := bS HB hb; clear hb))
        go_ret
        exact ⟨TE, TB⟩

end Go.Proofs.Ytanpaipapcjpoaa.Q
