/- Functions of the program as plain Lean functions, and that a call of each comes to what its function tells. Written by a program of this seat. -/
import Derived.Test.YtanpaipapcjpoaaDoorQ0
import Derived.Test.YtanpaipapcjpoaaDoorQ2
import Derived.Test.YtanpaipapcjpoaaDoorQ7
import Derived.Test.YtanpaipapcjpoaaDoorQ8
import Derived.Test.YtanpaipapcjpoaaDoorQ12
import Derived.Test.YtanpaipapcjpoaaDoorQ13
import Derived.Test.YtanpaipapcjpoaaDoorQ15
namespace Go.Proofs.YtanpaipapcjpoaaDoor.Q
open Go.RowKit Go.Proofs.YtanpaipapcjpoaaDoorW.PrintWords Go.Proofs.YtanpaipapcjpoaaDoorW.PrintLast Go.Proofs.YtanpaipapcjpoaaDoorW.PrintMore
attribute [local go_sem] max2_int min2_int max_two min_two max_three min_three max_four min_four   -- for this text's walks alone
set_option linter.unusedVariables false
set_option linter.unusedSimpArgs false

/-! ### laws_FnExactMsgText: function 3 -/
def laws_FnExactMsgText.f (k : Nat) (a0_0 : Int) (a0_1 : Int) (a0_2 : Int) (a0_3 : Int) (a0_4 : Int) (l0_5 : List (S66)) (a0_6 : Int) (a0_7 : Int) (a0_8 : Int) (l0_9 : List Int) : Option (Bool) := (laws_szMsg.f a0_0 a0_1 a0_2 a0_3 a0_4 l0_5 a0_6 a0_7 a0_8 l0_9 1048576).bind fun t297 => (if t297 < 0 then (some true) else ((laws_toMsg.f k a0_0 a0_1 a0_2 a0_3 a0_4 l0_5 a0_6 a0_7 a0_8 l0_9).bind fun bt298 => ((spec_MsgText.f k bt298.1 bt298.2.1 bt298.2.2.1 bt298.2.2.2.1 bt298.2.2.2.2.1 bt298.2.2.2.2.2.1 bt298.2.2.2.2.2.2.1 bt298.2.2.2.2.2.2.2.1 bt298.2.2.2.2.2.2.2.2.1 bt298.2.2.2.2.2.2.2.2.2).bind fun t312 => ((laws_toMsg.f k a0_0 a0_1 a0_2 a0_3 a0_4 l0_5 a0_6 a0_7 a0_8 l0_9).bind fun bt313 => ((impl_MsgText.f k bt313.1 bt313.2.1 bt313.2.2.1 bt313.2.2.2.1 bt313.2.2.2.2.1 bt313.2.2.2.2.2.1 bt313.2.2.2.2.2.2.1 bt313.2.2.2.2.2.2.2.1 bt313.2.2.2.2.2.2.2.2.1 bt313.2.2.2.2.2.2.2.2.2).bind fun t328 => (if t328.toList = t312.toList then ((laws_toMsg.f k a0_0 a0_1 a0_2 a0_3 a0_4 l0_5 a0_6 a0_7 a0_8 l0_9).bind fun bt329 => ((laws_eqMsg.f k bt313.1 bt313.2.1 bt313.2.2.1 bt313.2.2.2.1 bt313.2.2.2.2.1 bt313.2.2.2.2.2.1 bt313.2.2.2.2.2.2.1 bt313.2.2.2.2.2.2.2.1 bt313.2.2.2.2.2.2.2.2.1 bt313.2.2.2.2.2.2.2.2.2 bt329.1 bt329.2.1 bt329.2.2.1 bt329.2.2.2.1 bt329.2.2.2.2.1 bt329.2.2.2.2.2.1 bt329.2.2.2.2.2.2.1 bt329.2.2.2.2.2.2.2.1 bt329.2.2.2.2.2.2.2.2.1 bt329.2.2.2.2.2.2.2.2.2).bind fun t343 => (if t343 = true then (some true) else (none)))) else (none)))))))
theorem laws_FnExactMsgText.mono : ∀ a0 a1 a2 a3 a4 a5 a6 a7 a8 a9 k, LeO (laws_FnExactMsgText.f k a0 a1 a2 a3 a4 a5 a6 a7 a8 a9) (laws_FnExactMsgText.f (k + 1) a0 a1 a2 a3 a4 a5 a6 a7 a8 a9) := by
  intro a0 a1 a2 a3 a4 a5 a6 a7 a8 a9 k
  have m0_ := @impl_MsgText.mono
  have m1_ := @laws_eqMsg.mono
  have m2_ := @laws_toMsg.mono
  have m3_ := @spec_MsgText.mono
  unfold laws_FnExactMsgText.f
  exact LM
set_option maxHeartbeats 40000000 in
set_option maxRecDepth 100000 in
theorem laws_FnExactMsgText.calls (k : Nat) (a0_0 : Int) (a0_1 : Int) (a0_2 : Int) (a0_3 : Int) (a0_4 : Int) (A0_5 : Option Addr) (c0_5 : Nat) (l0_5 : List (S66)) (a0_6 : Int) (a0_7 : Int) (a0_8 : Int) (A0_9 : Option Addr) (c0_9 : Nat) (l0_9 : List Int) (r : Bool) (w : World) (hr0_5 : Kd.C k66 w A0_5 l0_5.length l0_5) (hc0_5 : l0_5.length ≤ c0_5) (hr0_9 : Kd.C (Kd.int .u8) w A0_9 l0_9.length l0_9) (hc0_9 : l0_9.length ≤ c0_9) (h : laws_FnExactMsgText.f k a0_0 a0_1 a0_2 a0_3 a0_4 l0_5 a0_6 a0_7 a0_8 l0_9 = some r) (hT : TabOk w) :
    Calls Tryd.prog 3 #[.agg #[.int .i64 a0_0, .int .i64 a0_1, .int .i64 a0_2, .int .i64 a0_3, .int .i64 a0_4, .slice A0_5 l0_5.length c0_5, .int .i64 a0_6, .int .i64 a0_7, .int .i64 a0_8, .slice A0_9 l0_9.length c0_9]] w fun e w' => e = .returned (.bool r) ∧ Below w.heap.size w w' := by
  have HT := aM hT
  clear hT
  have hu27 := Tryd.underlying27
  have hu34 := Tryd.underlying34
  have HR0_5 := aM hr0_5
  have HC0_5 := aM hc0_5
  clear hr0_5 hc0_5
  have HR0_9 := aM hr0_9
  have HC0_9 := aM hc0_9
  clear hr0_9 hc0_9
  have HB := aM (Below.refl w.heap.size w)
  have H := h
  clear h
  unfold laws_FnExactMsgText.f at H
  replace H := bE H
  obtain ⟨t297, A2, H⟩ := H
  go_enter Tryd.func3, Tryd.ntmps3
  go_wp2_with (first | ((with_reducible refine gate_dst (N := 1) rfl ?_); refine gBx 1 #[.int .i64 a0_0, .int .i64 a0_1, .int .i64 a0_2, .int .i64 a0_3, .int .i64 a0_4, .slice A0_5 l0_5.length c0_5, .int .i64 a0_6, .int .i64 a0_7, .int .i64 a0_8, .slice A0_9 l0_9.length c0_9] 27 ?_; intro gb296 hg w3 hbox hb; have BK296 := aM (hbox); have GW296 := aM ((by rw [hg]; exact (below_size TB) : w.heap.size ≤ gb296)); have GE296 := aM ((by rw [hg]; exact (below_size TB) : w.heap.size ≤ gb296)); replace HB := aM (below_step TB hb); clear hb hbox hg; obtain ⟨hcz4_0, hcz4_1, hcz4_2, hcz4_3, hcz4_4, hcz4_5, hcz4_6, hcz4_7, hcz4_8, hcz4_9⟩ := cz10 BK296.out; obtain ⟨hfz4_0, hfz4_1, hfz4_2, hfz4_3, hfz4_4, hfz4_5, hfz4_6, hfz4_7, hfz4_8, hfz4_9⟩ := fz10 BK296.out) | ((with_reducible refine gate_callee (f := 4) rfl ?_); (with_reducible refine gate_dst (N := 9) rfl ?_); generalize hG_ : wpList _ _ _ _ _ _ = G_))
  subst hG_
  by_cases c5 : t297 < 0
  · rw [if_pos c5] at H
    have c5b0 : decide (t297 < 0) = true := decide_eq_true c5
    clear c5
    obtain rfl := Option.some.inj H
    go_wp2_with (first | ((with_reducible refine gate_callee (f := 4) rfl ?_); refine gL (some 9) Tryd.func4 #[.agg #[.int .i64 a0_0, .int .i64 a0_1, .int .i64 a0_2, .int .i64 a0_3, .int .i64 a0_4, .slice A0_5 l0_5.length c0_5, .int .i64 a0_6, .int .i64 a0_7, .int .i64 a0_8, .slice A0_9 l0_9.length c0_9], .int .i64 1048576] ?_; (with_reducible refine (laws_szMsg.calls a0_0 a0_1 a0_2 a0_3 a0_4 _ _ l0_5 a0_6 a0_7 a0_8 _ _ l0_9 1048576 t297 _ ?side1 ?side2 ?side3 ?side4 A2.out).mono ?_); (case side1 => repeat (first | exact (Kd.C_below HR0_5.out TB) | (with_reducible refine Kd.C_alloc ?_ _) | (with_reducible refine Kd.C_drewN ?_ _) | (with_reducible refine Kd.C_drew ?_))); (case side2 => exact HC0_5.out); (case side3 => repeat (first | exact (Kd.C_below HR0_9.out TB) | (with_reducible refine Kd.C_alloc ?_ _) | (with_reducible refine Kd.C_drewN ?_ _) | (with_reducible refine Kd.C_drew ?_))); (case side4 => exact HC0_9.out); rintro e w6 ⟨rfl, hb⟩; refine ⟨_, rfl, ?_⟩; replace BK296 := aM (blk_below (by have X_ := BK296.out; exact TX) hb); replace HB := aM (below_step TB hb); clear hb))
    go_ret
    exact ⟨by first | rfl | (simp [errW_none, errW_some] <;> rfl) | (simp [*, errW_none, errW_some] <;> rfl), TB⟩
  · rw [if_neg c5] at H
    have c5b0 : decide (t297 < 0) = false := decide_eq_false c5
    clear c5
    replace H := bE H
    obtain ⟨⟨t298, t299, t300, t301, t302, t303, t306, t307, t308, t309⟩, A7, H⟩ := H
    dsimp only at H
    replace H := bE H
    obtain ⟨t312, A8, H⟩ := H
    replace H := bE H
    obtain ⟨⟨t313, t314, t315, t316, t317, t318, t321, t322, t323, t324⟩, A9, H⟩ := H
    dsimp only at H
    replace H := bE H
    obtain ⟨t328, A10, H⟩ := H
    replace H := ifN H
    obtain ⟨c11, H⟩ := H
    have c11b0 : (t328.toList == t312.toList) = true := beq_iff_eq.mpr c11
    have c11b1 : (t328.toList != t312.toList) = false := bne_eq_false_iff_eq.mpr c11
    clear c11
    replace H := bE H
    obtain ⟨⟨t329, t330, t331, t332, t333, t334, t337, t338, t339, t340⟩, A12, H⟩ := H
    dsimp only at H
    replace H := bE H
    obtain ⟨t343, A13, H⟩ := H
    replace H := ifN H
    obtain ⟨c14, H⟩ := H
    subst c14
    obtain rfl := Option.some.inj H
    try go_wp2_with (first | ((with_reducible refine gate_callee (f := 4) rfl ?_); refine gL (some 9) Tryd.func4 #[.agg #[.int .i64 a0_0, .int .i64 a0_1, .int .i64 a0_2, .int .i64 a0_3, .int .i64 a0_4, .slice A0_5 l0_5.length c0_5, .int .i64 a0_6, .int .i64 a0_7, .int .i64 a0_8, .slice A0_9 l0_9.length c0_9], .int .i64 1048576] ?_; (with_reducible refine (laws_szMsg.calls a0_0 a0_1 a0_2 a0_3 a0_4 _ _ l0_5 a0_6 a0_7 a0_8 _ _ l0_9 1048576 t297 _ ?side1 ?side2 ?side3 ?side4 A2.out).mono ?_); (case side1 => repeat (first | exact (Kd.C_below HR0_5.out TB) | (with_reducible refine Kd.C_alloc ?_ _) | (with_reducible refine Kd.C_drewN ?_ _) | (with_reducible refine Kd.C_drew ?_))); (case side2 => exact HC0_5.out); (case side3 => repeat (first | exact (Kd.C_below HR0_9.out TB) | (with_reducible refine Kd.C_alloc ?_ _) | (with_reducible refine Kd.C_drewN ?_ _) | (with_reducible refine Kd.C_drew ?_))); (case side4 => exact HC0_9.out); rintro e w15 ⟨rfl, hb⟩; refine ⟨_, rfl, ?_⟩; replace BK296 := aM (blk_below (by have X_ := BK296.out; exact TX) hb); replace HB := aM (below_step TB hb); clear hb; obtain ⟨hcz16_0, hcz16_1, hcz16_2, hcz16_3, hcz16_4, hcz16_5, hcz16_6, hcz16_7, hcz16_8, hcz16_9⟩ := cz10 BK296.out; obtain ⟨hfz16_0, hfz16_1, hfz16_2, hfz16_3, hfz16_4, hfz16_5, hfz16_6, hfz16_7, hfz16_8, hfz16_9⟩ := fz10 BK296.out) | ((with_reducible refine gate_callee (f := 6) rfl ?_); refine gL (some 13) Tryd.func6 #[.agg #[.int .i64 a0_0, .int .i64 a0_1, .int .i64 a0_2, .int .i64 a0_3, .int .i64 a0_4, .slice A0_5 l0_5.length c0_5, .int .i64 a0_6, .int .i64 a0_7, .int .i64 a0_8, .slice A0_9 l0_9.length c0_9]] ?_; (with_reducible refine (laws_toMsg.calls k a0_0 a0_1 a0_2 a0_3 a0_4 _ _ l0_5 a0_6 a0_7 a0_8 _ _ l0_9 t298 t299 t300 t301 t302 t303 t306 t307 t308 t309 _ ?side1 ?side2 ?side3 ?side4 A7.out).mono ?_); (case side1 => have X_ := (Kd.C_below HR0_5.out HB.out); exact TC); (case side2 => exact HC0_5.out); (case side3 => have X_ := (Kd.C_below HR0_9.out HB.out); exact TC); (case side4 => exact HC0_9.out); rintro e w17 ⟨v304, v310, rfl, ho0, ho1, hb⟩; refine ⟨_, rfl, ?_⟩; have HO305 := aM (Kd.R_lower ho0 (below_size TB)); have HO311 := aM (Kd.R_lower ho1 (below_size TB)); replace BK296 := aM (blk_below (by have X_ := BK296.out; exact TX) hb); replace HB := aM (below_step TB hb); clear ho0 ho1 hb; obtain ⟨Ao18, co18, eo18⟩ := Kd.R_slice HO305.out; subst eo18; obtain ⟨Ao19, co19, eo19⟩ := Kd.R_slice HO311.out; subst eo19) | ((with_reducible refine gate_callee (f := 5) rfl ?_); refine gL (some 14) Tryd.func5 #[.agg #[.int .i64 t298, .int .i64 t299, .int .i64 t300, .int .i64 t301, .int .i64 t302, .slice Ao18 t303.length co18, .int .i64 t306, .int .i64 t307, .int .i64 t308, .slice Ao19 t309.length co19]] ?_; (with_reducible refine (spec_MsgText.calls k t298 t299 t300 t301 t302 _ _ t303 t306 t307 t308 _ _ t309 t312 _ ?side1 ?side2 ?side3 ?side4 A8.out).mono ?_); (case side1 => have X_ := (Kd.R_reads' HO305.out).2.2; exact TC); (case side2 => exact (Kd.R_reads' HO305.out).2.1); (case side3 => have X_ := (Kd.R_reads' HO311.out).2.2; exact TC); (case side4 => exact (Kd.R_reads' HO311.out).2.1); rintro e w20 ⟨rfl, hb⟩; refine ⟨_, rfl, ?_⟩; replace HO305 := aM (Kd.R_below (by have X_ := HO305.out; exact TR) hb); replace HO311 := aM (Kd.R_below (by have X_ := HO311.out; exact TR) hb); replace BK296 := aM (blk_below (by have X_ := BK296.out; exact TX) hb); replace HB := aM (below_step TB hb); clear hb; obtain ⟨hcz21_0, hcz21_1, hcz21_2, hcz21_3, hcz21_4, hcz21_5, hcz21_6, hcz21_7, hcz21_8, hcz21_9⟩ := cz10 BK296.out; obtain ⟨hfz21_0, hfz21_1, hfz21_2, hfz21_3, hfz21_4, hfz21_5, hfz21_6, hfz21_7, hfz21_8, hfz21_9⟩ := fz10 BK296.out) | ((with_reducible refine gate_callee (f := 6) rfl ?_); refine gL (some 16) Tryd.func6 #[.agg #[.int .i64 a0_0, .int .i64 a0_1, .int .i64 a0_2, .int .i64 a0_3, .int .i64 a0_4, .slice A0_5 l0_5.length c0_5, .int .i64 a0_6, .int .i64 a0_7, .int .i64 a0_8, .slice A0_9 l0_9.length c0_9]] ?_; (with_reducible refine (laws_toMsg.calls k a0_0 a0_1 a0_2 a0_3 a0_4 _ _ l0_5 a0_6 a0_7 a0_8 _ _ l0_9 t313 t314 t315 t316 t317 t318 t321 t322 t323 t324 _ ?side1 ?side2 ?side3 ?side4 A9.out).mono ?_); (case side1 => have X_ := (Kd.C_below HR0_5.out HB.out); exact TC); (case side2 => exact HC0_5.out); (case side3 => have X_ := (Kd.C_below HR0_9.out HB.out); exact TC); (case side4 => exact HC0_9.out); rintro e w22 ⟨v319, v325, rfl, ho0, ho1, hb⟩; refine ⟨_, rfl, ?_⟩; have HO320 := aM (Kd.R_lower (Kd.R_new' ho0 (Kd.R_lt (by have X_ := HO305.out; exact TR))) (below_size TB)); have HO326 := aM (Kd.R_lower (Kd.R_new' ho1 (Kd.R_lt (by have X_ := HO311.out; exact TR))) (below_size TB)); replace HO305 := aM (Kd.R_elder' (by have X_ := HO305.out; exact TR) (Kd.R_base ho0) hb); replace HO311 := aM (Kd.R_elder' (by have X_ := HO311.out; exact TR) (Kd.R_base ho1) hb); replace BK296 := aM (blk_below (by have X_ := BK296.out; exact TX) hb); replace HB := aM (below_step TB hb); clear ho0 ho1 hb) | ((with_reducible refine gate_dst (N := 5) rfl ?_); refine gBx 5 #[.int .i64 0, .int .i64 0, .int .i64 0, .int .i64 0, .int .i64 0, .slice none 0 0, .int .i64 0, .int .i64 0, .int .i64 0, .slice none 0 0] 34 ?_; intro gb327 hg w23 hbox hb; have BK327 := aM (hbox); have GW327 := aM ((by rw [hg]; exact (below_size TB) : w.heap.size ≤ gb327)); have GE327 := aM ((by rw [hg]; exact (below_size TB) : w.heap.size ≤ gb327)); have NB296_327 := aM ((by rw [hg]; exact Nat.ne_of_lt (blk_lt (by have X_ := BK296.out; exact TX)) : gb296 ≠ gb327)); have NB327_296 := aM ((by rw [hg]; exact Nat.ne_of_gt (blk_lt (by have X_ := BK296.out; exact TX)) : gb327 ≠ gb296)); replace HO305 := aM (Kd.R_below (by have X_ := HO305.out; exact TR) hb); replace HO311 := aM (Kd.R_below (by have X_ := HO311.out; exact TR) hb); replace HO320 := aM (Kd.R_below (by have X_ := HO320.out; exact TR) hb); replace HO326 := aM (Kd.R_below (by have X_ := HO326.out; exact TR) hb); replace BK296 := aM (blk_below (by have X_ := BK296.out; exact TX) hb); replace HB := aM (below_step TB hb); clear hb hbox hg; have hnb24 := NB327_296.out; have hnc24 := NB296_327.out; obtain ⟨hcz25_0, hcz25_1, hcz25_2, hcz25_3, hcz25_4, hcz25_5, hcz25_6, hcz25_7, hcz25_8, hcz25_9⟩ := cz10 BK327.out; obtain ⟨hfz25_0, hfz25_1, hfz25_2, hfz25_3, hfz25_4, hfz25_5, hfz25_6, hfz25_7, hfz25_8, hfz25_9⟩ := fz10 BK327.out; obtain ⟨Ao26, co26, eo26⟩ := Kd.R_slice HO320.out; subst eo26; obtain ⟨Ao27, co27, eo27⟩ := Kd.R_slice HO326.out; subst eo27) | ((with_reducible refine gate_callee (f := 7) rfl ?_); refine gL (some 18) Tryd.func7 #[.agg #[.int .i64 t313, .int .i64 t314, .int .i64 t315, .int .i64 t316, .int .i64 t317, .slice Ao26 t318.length co26, .int .i64 t321, .int .i64 t322, .int .i64 t323, .slice Ao27 t324.length co27]] ?_; (with_reducible refine (impl_MsgText.calls k t313 t314 t315 t316 t317 _ _ t318 t321 t322 t323 _ _ t324 t328 _ ?side1 ?side2 ?side3 ?side4 A10.out (HT.out.below TB)).mono ?_); (case side1 => refine (Kd.R_reads' (e := 61) (base := w.heap.size) (ok := fun k_ => (True ∧ some k_ ≠ (.slice Ao18 t303.length co18 : Value).ownBlock)) (n := t318.length) (c := co26) ?_).2.2; exact (by (with_reducible repeat (first | apply Kd.R_alloc | apply Kd.R_drewN | apply Kd.R_drew)); exact (R_off (Kd.R_types HO320.out BK327.out (by decide)) TO))); (case side2 => exact (Kd.R_reads' HO320.out).2.1); (case side3 => refine (Kd.R_reads' (e := 5) (base := w.heap.size) (ok := fun k_ => (True ∧ some k_ ≠ (.slice Ao19 t309.length co19 : Value).ownBlock)) (n := t324.length) (c := co27) ?_).2.2; exact (by (with_reducible repeat (first | apply Kd.R_alloc | apply Kd.R_drewN | apply Kd.R_drew)); exact (R_off (Kd.R_types HO326.out BK327.out (by decide)) TO))); (case side4 => exact (Kd.R_reads' HO326.out).2.1); rintro e w28 ⟨rfl, hb⟩; refine ⟨_, rfl, ?_⟩; replace HO305 := aM (Kd.R_below (by (with_reducible repeat (first | apply Kd.R_alloc | apply Kd.R_drewN | apply Kd.R_drew)); exact (R_off (Kd.R_types HO305.out BK327.out (by decide)) TO)) hb); replace HO311 := aM (Kd.R_below (by (with_reducible repeat (first | apply Kd.R_alloc | apply Kd.R_drewN | apply Kd.R_drew)); exact (R_off (Kd.R_types HO311.out BK327.out (by decide)) TO)) hb); replace HO320 := aM (Kd.R_below (by (with_reducible repeat (first | apply Kd.R_alloc | apply Kd.R_drewN | apply Kd.R_drew)); exact (R_off (Kd.R_types HO320.out BK327.out (by decide)) TO)) hb); replace HO326 := aM (Kd.R_below (by (with_reducible repeat (first | apply Kd.R_alloc | apply Kd.R_drewN | apply Kd.R_drew)); exact (R_off (Kd.R_types HO326.out BK327.out (by decide)) TO)) hb); replace BK296 := aM (blk_below (g := gb296) (o := .cells #[.int .i64 a0_0, .int .i64 a0_1, .int .i64 a0_2, .int .i64 a0_3, .int .i64 a0_4, .slice A0_5 l0_5.length c0_5, .int .i64 a0_6, .int .i64 a0_7, .int .i64 a0_8, .slice A0_9 l0_9.length c0_9] 27 (0, 0)) (by (with_reducible repeat (first | refine blk_drewN ?_ _ | refine blk_drew ?_ | refine blk_alloc ?_ _)); refine blk_far ?_ NB296_327.out _; (with_reducible repeat (first | refine blk_drewN ?_ _ | refine blk_drew ?_ | refine blk_alloc ?_ _)); refine blk_far ?_ NB296_327.out _; (with_reducible repeat (first | refine blk_drewN ?_ _ | refine blk_drew ?_ | refine blk_alloc ?_ _)); refine blk_far ?_ NB296_327.out _; (with_reducible repeat (first | refine blk_drewN ?_ _ | refine blk_drew ?_ | refine blk_alloc ?_ _)); refine blk_far ?_ NB296_327.out _; (with_reducible repeat (first | refine blk_drewN ?_ _ | refine blk_drew ?_ | refine blk_alloc ?_ _)); refine blk_far ?_ NB296_327.out _; (with_reducible repeat (first | refine blk_drewN ?_ _ | refine blk_drew ?_ | refine blk_alloc ?_ _)); refine blk_far ?_ NB296_327.out _; (with_reducible repeat (first | refine blk_drewN ?_ _ | refine blk_drew ?_ | refine blk_alloc ?_ _)); refine blk_far ?_ NB296_327.out _; (with_reducible repeat (first | refine blk_drewN ?_ _ | refine blk_drew ?_ | refine blk_alloc ?_ _)); refine blk_far ?_ NB296_327.out _; (with_reducible repeat (first | refine blk_drewN ?_ _ | refine blk_drew ?_ | refine blk_alloc ?_ _)); refine blk_far ?_ NB296_327.out _; (with_reducible repeat (first | refine blk_drewN ?_ _ | refine blk_drew ?_ | refine blk_alloc ?_ _)); refine blk_far ?_ NB296_327.out _; (with_reducible repeat (first | refine blk_drewN ?_ _ | refine blk_drew ?_ | refine blk_alloc ?_ _)); exact BK296.out) hb); replace BK327 := aM (blk_below (g := gb327) (o := .cells #[.int .i64 t313, .int .i64 t314, .int .i64 t315, .int .i64 t316, .int .i64 t317, .slice Ao26 t318.length co26, .int .i64 t321, .int .i64 t322, .int .i64 t323, .slice Ao27 t324.length co27] 34 (0, 0)) (by (with_reducible repeat (first | refine blk_drewN ?_ _ | refine blk_drew ?_ | refine blk_alloc ?_ _)); refine blk_put (cs := #[.int .i64 t313, .int .i64 t314, .int .i64 t315, .int .i64 t316, .int .i64 t317, .slice Ao26 t318.length co26, .int .i64 t321, .int .i64 t322, .int .i64 t323, .slice none 0 0]) ?_ 9 _ rfl; (with_reducible repeat (first | refine blk_drewN ?_ _ | refine blk_drew ?_ | refine blk_alloc ?_ _)); refine blk_put (cs := #[.int .i64 t313, .int .i64 t314, .int .i64 t315, .int .i64 t316, .int .i64 t317, .slice Ao26 t318.length co26, .int .i64 t321, .int .i64 t322, .int .i64 0, .slice none 0 0]) ?_ 8 _ rfl; (with_reducible repeat (first | refine blk_drewN ?_ _ | refine blk_drew ?_ | refine blk_alloc ?_ _)); refine blk_put (cs := #[.int .i64 t313, .int .i64 t314, .int .i64 t315, .int .i64 t316, .int .i64 t317, .slice Ao26 t318.length co26, .int .i64 t321, .int .i64 0, .int .i64 0, .slice none 0 0]) ?_ 7 _ rfl; (with_reducible repeat (first | refine blk_drewN ?_ _ | refine blk_drew ?_ | refine blk_alloc ?_ _)); refine blk_put (cs := #[.int .i64 t313, .int .i64 t314, .int .i64 t315, .int .i64 t316, .int .i64 t317, .slice Ao26 t318.length co26, .int .i64 0, .int .i64 0, .int .i64 0, .slice none 0 0]) ?_ 6 _ rfl; (with_reducible repeat (first | refine blk_drewN ?_ _ | refine blk_drew ?_ | refine blk_alloc ?_ _)); refine blk_put (cs := #[.int .i64 t313, .int .i64 t314, .int .i64 t315, .int .i64 t316, .int .i64 t317, .slice none 0 0, .int .i64 0, .int .i64 0, .int .i64 0, .slice none 0 0]) ?_ 5 _ rfl; (with_reducible repeat (first | refine blk_drewN ?_ _ | refine blk_drew ?_ | refine blk_alloc ?_ _)); refine blk_put (cs := #[.int .i64 t313, .int .i64 t314, .int .i64 t315, .int .i64 t316, .int .i64 0, .slice none 0 0, .int .i64 0, .int .i64 0, .int .i64 0, .slice none 0 0]) ?_ 4 _ rfl; (with_reducible repeat (first | refine blk_drewN ?_ _ | refine blk_drew ?_ | refine blk_alloc ?_ _)); refine blk_put (cs := #[.int .i64 t313, .int .i64 t314, .int .i64 t315, .int .i64 0, .int .i64 0, .slice none 0 0, .int .i64 0, .int .i64 0, .int .i64 0, .slice none 0 0]) ?_ 3 _ rfl; (with_reducible repeat (first | refine blk_drewN ?_ _ | refine blk_drew ?_ | refine blk_alloc ?_ _)); refine blk_put (cs := #[.int .i64 t313, .int .i64 t314, .int .i64 0, .int .i64 0, .int .i64 0, .slice none 0 0, .int .i64 0, .int .i64 0, .int .i64 0, .slice none 0 0]) ?_ 2 _ rfl; (with_reducible repeat (first | refine blk_drewN ?_ _ | refine blk_drew ?_ | refine blk_alloc ?_ _)); refine blk_put (cs := #[.int .i64 t313, .int .i64 0, .int .i64 0, .int .i64 0, .int .i64 0, .slice none 0 0, .int .i64 0, .int .i64 0, .int .i64 0, .slice none 0 0]) ?_ 1 _ rfl; (with_reducible repeat (first | refine blk_drewN ?_ _ | refine blk_drew ?_ | refine blk_alloc ?_ _)); refine blk_put (cs := #[.int .i64 0, .int .i64 0, .int .i64 0, .int .i64 0, .int .i64 0, .slice none 0 0, .int .i64 0, .int .i64 0, .int .i64 0, .slice none 0 0]) ?_ 0 _ rfl; (with_reducible repeat (first | refine blk_drewN ?_ _ | refine blk_drew ?_ | refine blk_alloc ?_ _)); exact BK327.out) hb); replace HB := aM (below_step TB hb); clear hb))
    replace HO305 := aM (Kd.R_drew HO305.out)
    replace HO311 := aM (Kd.R_drew HO311.out)
    replace HO320 := aM (Kd.R_drew HO320.out)
    replace HO326 := aM (Kd.R_drew HO326.out)
    replace BK296 := aM (blk_drew BK296.out)
    replace BK327 := aM (blk_drew BK327.out)
    replace HB := aM (below_drew1 HB.out)
    refine start_ (n := 5) (S := fun w' => w'.cell? ⟨gb327, 0, none⟩ = some (.int .i64 t313) ∧ w'.cell? ⟨gb327, 1, none⟩ = some (.int .i64 t314) ∧ w'.cell? ⟨gb327, 2, none⟩ = some (.int .i64 t315) ∧ w'.cell? ⟨gb327, 3, none⟩ = some (.int .i64 t316) ∧ w'.cell? ⟨gb327, 4, none⟩ = some (.int .i64 t317) ∧ w'.cell? ⟨gb327, 5, none⟩ = some (.slice Ao26 t318.length co26) ∧ w'.cell? ⟨gb327, 6, none⟩ = some (.int .i64 t321) ∧ w'.cell? ⟨gb327, 7, none⟩ = some (.int .i64 t322) ∧ w'.cell? ⟨gb327, 8, none⟩ = some (.int .i64 t323) ∧ w'.cell? ⟨gb327, 9, none⟩ = some (.slice Ao27 t324.length co27) ∧ w'.cell? ⟨gb296, 0, none⟩ = some (.int .i64 a0_0) ∧ w'.cell? ⟨gb296, 1, none⟩ = some (.int .i64 a0_1) ∧ w'.cell? ⟨gb296, 2, none⟩ = some (.int .i64 a0_2) ∧ w'.cell? ⟨gb296, 3, none⟩ = some (.int .i64 a0_3) ∧ w'.cell? ⟨gb296, 4, none⟩ = some (.int .i64 a0_4) ∧ w'.cell? ⟨gb296, 5, none⟩ = some (.slice A0_5 l0_5.length c0_5) ∧ w'.cell? ⟨gb296, 6, none⟩ = some (.int .i64 a0_6) ∧ w'.cell? ⟨gb296, 7, none⟩ = some (.int .i64 a0_7) ∧ w'.cell? ⟨gb296, 8, none⟩ = some (.int .i64 a0_8) ∧ w'.cell? ⟨gb296, 9, none⟩ = some (.slice A0_9 l0_9.length c0_9)) (ds := []) (Array.replicate 5 false) (by kernel_rfl) rfl rfl ⟨(blk_cell BK327.out 0).trans rfl, (blk_cell BK327.out 1).trans rfl, (blk_cell BK327.out 2).trans rfl, (blk_cell BK327.out 3).trans rfl, (blk_cell BK327.out 4).trans rfl, (blk_cell BK327.out 5).trans rfl, (blk_cell BK327.out 6).trans rfl, (blk_cell BK327.out 7).trans rfl, (blk_cell BK327.out 8).trans rfl, (blk_cell BK327.out 9).trans rfl, (blk_cell BK296.out 0).trans rfl, (blk_cell BK296.out 1).trans rfl, (blk_cell BK296.out 2).trans rfl, (blk_cell BK296.out 3).trans rfl, (blk_cell BK296.out 4).trans rfl, (blk_cell BK296.out 5).trans rfl, (blk_cell BK296.out 6).trans rfl, (blk_cell BK296.out 7).trans rfl, (blk_cell BK296.out 8).trans rfl, (blk_cell BK296.out 9).trans rfl⟩ (fun hHeld => ?_)
    generalize w28.drew = w29 at HO305 HO311 HO320 HO326 BK296 BK327 HB hHeld ⊢
    refine pT 0 (some 22) ?_
    refine pT 1 (some 23) ?_
    refine pO 2 (some 24) (fun K hK => ?_)
    refine gG Tryd.func6 #[.agg #[.int .i64 a0_0, .int .i64 a0_1, .int .i64 a0_2, .int .i64 a0_3, .int .i64 a0_4, .slice A0_5 l0_5.length c0_5, .int .i64 a0_6, .int .i64 a0_7, .int .i64 a0_8, .slice A0_9 l0_9.length c0_9]] ?_
    with_reducible refine (laws_toMsg.calls k a0_0 a0_1 a0_2 a0_3 a0_4 _ _ l0_5 a0_6 a0_7 a0_8 _ _ l0_9 t329 t330 t331 t332 t333 t334 t337 t338 t339 t340 _ ?side1 ?side2 ?side3 ?side4 A12.out).mono ?_
    (case side1 => have X_ := (Kd.C_below HR0_5.out HB.out); exact TC)
    (case side2 => exact HC0_5.out)
    (case side3 => have X_ := (Kd.C_below HR0_9.out HB.out); exact TC)
    (case side4 => exact HC0_9.out)
    rintro e w30 ⟨v335, v341, rfl, ho0, ho1, hb⟩
    refine ⟨_, rfl, ?_⟩
    have n0_ := aM (Kd.R_elder' (by have X_ := HO305.out; exact TR) (Kd.R_base ho0) hb)
    have n1_ := aM (Kd.R_elder' (by have X_ := HO311.out; exact TR) (Kd.R_base ho1) hb)
    have n2_ := aM (Kd.R_elder' (by have X_ := HO320.out; exact TR) (Kd.R_base ho0) hb)
    have n3_ := aM (Kd.R_elder' (by have X_ := HO326.out; exact TR) (Kd.R_base ho1) hb)
    have n4_ := aM (Kd.R_lower (Kd.R_new' (Kd.R_new' ho0 (Kd.R_lt (by have X_ := HO305.out; exact TR))) (Kd.R_lt (by have X_ := HO320.out; exact TR))) (below_size TB))
    have n5_ := aM (Kd.R_lower (Kd.R_new' (Kd.R_new' ho1 (Kd.R_lt (by have X_ := HO311.out; exact TR))) (Kd.R_lt (by have X_ := HO326.out; exact TR))) (below_size TB))
    have n6_ := aM (blk_below (by have X_ := BK296.out; exact TX) hb)
    have n7_ := aM (blk_below (by have X_ := BK327.out; exact TX) hb)
    have n8_ := aM (below_step TB hb)
    clear HO305
    clear HO311
    clear HO320
    clear HO326
    clear BK296
    clear BK327
    clear HB
    have HO305 := n0_
    have HO311 := n1_
    have HO320 := n2_
    have HO326 := n3_
    have HO336 := n4_
    have HO342 := n5_
    have BK296 := n6_
    have BK327 := n7_
    have HB := n8_
    clear n0_ n1_ n2_ n3_ n4_ n5_ n6_ n7_ n8_
    (try clear hb)
    (try clear hb2)
    (try clear hk)
    (try clear hi)
    (try clear ho0)
    (try clear ho1)
    obtain ⟨Ao31, co31, eo31⟩ := Kd.R_slice HO336.out
    (first | subst eo31 | (injection eo31 with f1_ f2_ f3_; have f4_ := f1_.symm; have f5_ := f3_.symm; clear f1_ f2_ f3_; subst f4_; subst f5_))
    obtain ⟨Ao32, co32, eo32⟩ := Kd.R_slice HO342.out
    (first | subst eo32 | (injection eo32 with f1_ f2_ f3_; have f4_ := f1_.symm; have f5_ := f3_.symm; clear f1_ f2_ f3_; subst f4_; subst f5_))
    refine hK.out _ _ ⟨(blk_cell BK327.out 0).trans rfl, (blk_cell BK327.out 1).trans rfl, (blk_cell BK327.out 2).trans rfl, (blk_cell BK327.out 3).trans rfl, (blk_cell BK327.out 4).trans rfl, (blk_cell BK327.out 5).trans rfl, (blk_cell BK327.out 6).trans rfl, (blk_cell BK327.out 7).trans rfl, (blk_cell BK327.out 8).trans rfl, (blk_cell BK327.out 9).trans rfl, (blk_cell BK296.out 0).trans rfl, (blk_cell BK296.out 1).trans rfl, (blk_cell BK296.out 2).trans rfl, (blk_cell BK296.out 3).trans rfl, (blk_cell BK296.out 4).trans rfl, (blk_cell BK296.out 5).trans rfl, (blk_cell BK296.out 6).trans rfl, (blk_cell BK296.out 7).trans rfl, (blk_cell BK296.out 8).trans rfl, (blk_cell BK296.out 9).trans rfl⟩ (fun hHeld => ?_)
    clear hK K
    refine nR ?_
    refine pO 3 (some 25) (fun K hK => ?_)
    refine gG Tryd.func8 #[.agg #[.int .i64 t313, .int .i64 t314, .int .i64 t315, .int .i64 t316, .int .i64 t317, .slice Ao26 t318.length co26, .int .i64 t321, .int .i64 t322, .int .i64 t323, .slice Ao27 t324.length co27], .agg #[.int .i64 t329, .int .i64 t330, .int .i64 t331, .int .i64 t332, .int .i64 t333, .slice Ao31 t334.length co31, .int .i64 t337, .int .i64 t338, .int .i64 t339, .slice Ao32 t340.length co32]] ?_
    with_reducible refine (laws_eqMsg.calls k t313 t314 t315 t316 t317 _ _ t318 t321 t322 t323 _ _ t324 t329 t330 t331 t332 t333 _ _ t334 t337 t338 t339 _ _ t340 true _ ?side1 ?side2 ?side3 ?side4 ?side5 ?side6 ?side7 ?side8 A13.out).mono ?_
    (case side1 => have X_ := (Kd.R_reads' HO320.out).2.2; exact TC)
    (case side2 => exact (Kd.R_reads' HO320.out).2.1)
    (case side3 => have X_ := (Kd.R_reads' HO326.out).2.2; exact TC)
    (case side4 => exact (Kd.R_reads' HO326.out).2.1)
    (case side5 => have X_ := (Kd.R_reads' HO336.out).2.2; exact TC)
    (case side6 => exact (Kd.R_reads' HO336.out).2.1)
    (case side7 => have X_ := (Kd.R_reads' HO342.out).2.2; exact TC)
    (case side8 => exact (Kd.R_reads' HO342.out).2.1)
    rintro e w33 ⟨rfl, hb⟩
    refine ⟨_, rfl, ?_⟩
    have n0_ := aM (Kd.R_below (by have X_ := HO305.out; exact TR) hb)
    have n1_ := aM (Kd.R_below (by have X_ := HO311.out; exact TR) hb)
    have n2_ := aM (Kd.R_below (by have X_ := HO320.out; exact TR) hb)
    have n3_ := aM (Kd.R_below (by have X_ := HO326.out; exact TR) hb)
    have n4_ := aM (Kd.R_below (by have X_ := HO336.out; exact TR) hb)
    have n5_ := aM (Kd.R_below (by have X_ := HO342.out; exact TR) hb)
    have n6_ := aM (blk_below (by have X_ := BK296.out; exact TX) hb)
    have n7_ := aM (blk_below (by have X_ := BK327.out; exact TX) hb)
    have n8_ := aM (below_step TB hb)
    clear HO305
    clear HO311
    clear HO320
    clear HO326
    clear HO336
    clear HO342
    clear BK296
    clear BK327
    clear HB
    have HO305 := n0_
    have HO311 := n1_
    have HO320 := n2_
    have HO326 := n3_
    have HO336 := n4_
    have HO342 := n5_
    have BK296 := n6_
    have BK327 := n7_
    have HB := n8_
    clear n0_ n1_ n2_ n3_ n4_ n5_ n6_ n7_ n8_
    (try clear hb)
    (try clear hb2)
    (try clear hk)
    (try clear hi)
    refine hK.out _ _ ⟨(blk_cell BK327.out 0).trans rfl, (blk_cell BK327.out 1).trans rfl, (blk_cell BK327.out 2).trans rfl, (blk_cell BK327.out 3).trans rfl, (blk_cell BK327.out 4).trans rfl, (blk_cell BK327.out 5).trans rfl, (blk_cell BK327.out 6).trans rfl, (blk_cell BK327.out 7).trans rfl, (blk_cell BK327.out 8).trans rfl, (blk_cell BK327.out 9).trans rfl, (blk_cell BK296.out 0).trans rfl, (blk_cell BK296.out 1).trans rfl, (blk_cell BK296.out 2).trans rfl, (blk_cell BK296.out 3).trans rfl, (blk_cell BK296.out 4).trans rfl, (blk_cell BK296.out 5).trans rfl, (blk_cell BK296.out 6).trans rfl, (blk_cell BK296.out 7).trans rfl, (blk_cell BK296.out 8).trans rfl, (blk_cell BK296.out 9).trans rfl⟩ (fun hHeld => ?_)
    clear hK K
    refine nR ?_
    refine pP 4 (some 26) ?_
    refine done_ (by kernel_rfl) ?_
    try go_wp2
    go_ret
    exact ⟨by first | rfl | (simp [errW_none, errW_some] <;> rfl) | (simp [*, errW_none, errW_some] <;> rfl), TB⟩

end Go.Proofs.YtanpaipapcjpoaaDoor.Q
