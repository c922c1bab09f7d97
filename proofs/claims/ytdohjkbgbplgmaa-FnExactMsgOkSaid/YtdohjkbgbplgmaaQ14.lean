/- Functions of the program as plain Lean functions, and that a call of each comes to what its function tells. Written by a program of this seat. -/
import Derived.Test.YtdohjkbgbplgmaaQ0
import Derived.Test.YtdohjkbgbplgmaaQ2
import Derived.Test.YtdohjkbgbplgmaaQ6
import Derived.Test.YtdohjkbgbplgmaaQ8
import Derived.Test.YtdohjkbgbplgmaaQ12
import Derived.Test.YtdohjkbgbplgmaaQ13
namespace Go.Proofs.Ytdohjkbgbplgmaa.Q
open Go.RowKit Go.Proofs.YtdohjkbgbplgmaaW.PrintWords Go.Proofs.YtdohjkbgbplgmaaW.PrintLast Go.Proofs.YtdohjkbgbplgmaaW.PrintMore
attribute [local go_sem] max2_int min2_int max_two min_two max_three min_three max_four min_four   -- for this text's walks alone
set_option linter.unusedVariables false
set_option linter.unusedSimpArgs false

/-! ### laws_FnExactMsgOk: function 3 -/
def laws_FnExactMsgOk.f (k : Nat) (a0_0 : Int) (a0_1 : Int) (a0_2 : Int) (a0_3 : Int) (a0_4 : Int) (l0_5 : List (S101)) (a0_6 : Int) (a0_7 : Int) (a0_8 : Int) (l0_9 : List Int) : Option (Bool) := (laws_szMsg.f a0_0 a0_1 a0_2 a0_3 a0_4 l0_5 a0_6 a0_7 a0_8 l0_9 1048576).bind fun t263 => (if t263 < 0 then (some true) else ((laws_toMsg.f k a0_0 a0_1 a0_2 a0_3 a0_4 l0_5 a0_6 a0_7 a0_8 l0_9).bind fun bt264 => ((spec_MsgOk.f k bt264.1 bt264.2.1 bt264.2.2.1 bt264.2.2.2.1 bt264.2.2.2.2.1 bt264.2.2.2.2.2.1 bt264.2.2.2.2.2.2.1 bt264.2.2.2.2.2.2.2.1 bt264.2.2.2.2.2.2.2.2.1 bt264.2.2.2.2.2.2.2.2.2).bind fun t278 => ((laws_toMsg.f k a0_0 a0_1 a0_2 a0_3 a0_4 l0_5 a0_6 a0_7 a0_8 l0_9).bind fun bt279 => ((impl_MsgOk.f k bt279.1 bt279.2.1 bt279.2.2.1 bt279.2.2.2.1 bt279.2.2.2.2.1 bt279.2.2.2.2.2.1 bt279.2.2.2.2.2.2.1 bt279.2.2.2.2.2.2.2.1 bt279.2.2.2.2.2.2.2.2.1 bt279.2.2.2.2.2.2.2.2.2).bind fun t294 => (if (t294 != t278) = true then (none) else ((laws_toMsg.f k a0_0 a0_1 a0_2 a0_3 a0_4 l0_5 a0_6 a0_7 a0_8 l0_9).bind fun bt295 => ((laws_eqMsg.f k bt279.1 bt279.2.1 bt279.2.2.1 bt279.2.2.2.1 bt279.2.2.2.2.1 bt279.2.2.2.2.2.1 bt279.2.2.2.2.2.2.1 bt279.2.2.2.2.2.2.2.1 bt279.2.2.2.2.2.2.2.2.1 bt279.2.2.2.2.2.2.2.2.2 bt295.1 bt295.2.1 bt295.2.2.1 bt295.2.2.2.1 bt295.2.2.2.2.1 bt295.2.2.2.2.2.1 bt295.2.2.2.2.2.2.1 bt295.2.2.2.2.2.2.2.1 bt295.2.2.2.2.2.2.2.2.1 bt295.2.2.2.2.2.2.2.2.2).bind fun t309 => (if t309 = true then (some true) else (none))))))))))
theorem laws_FnExactMsgOk.mono : ∀ a0 a1 a2 a3 a4 a5 a6 a7 a8 a9 k, LeO (laws_FnExactMsgOk.f k a0 a1 a2 a3 a4 a5 a6 a7 a8 a9) (laws_FnExactMsgOk.f (k + 1) a0 a1 a2 a3 a4 a5 a6 a7 a8 a9) := by
  intro a0 a1 a2 a3 a4 a5 a6 a7 a8 a9 k
  have m0_ := @impl_MsgOk.mono
  have m1_ := @laws_eqMsg.mono
  have m2_ := @laws_toMsg.mono
  have m3_ := @spec_MsgOk.mono
  unfold laws_FnExactMsgOk.f
  exact LM
set_option maxHeartbeats 40000000 in
set_option maxRecDepth 100000 in
theorem laws_FnExactMsgOk.calls (k : Nat) (a0_0 : Int) (a0_1 : Int) (a0_2 : Int) (a0_3 : Int) (a0_4 : Int) (A0_5 : Option Addr) (c0_5 : Nat) (l0_5 : List (S101)) (a0_6 : Int) (a0_7 : Int) (a0_8 : Int) (A0_9 : Option Addr) (c0_9 : Nat) (l0_9 : List Int) (r : Bool) (w : World) (hr0_5 : Kd.C k101 w A0_5 l0_5.length l0_5) (hc0_5 : l0_5.length ≤ c0_5) (hr0_9 : Kd.C (Kd.int .u8) w A0_9 l0_9.length l0_9) (hc0_9 : l0_9.length ≤ c0_9) (h : laws_FnExactMsgOk.f k a0_0 a0_1 a0_2 a0_3 a0_4 l0_5 a0_6 a0_7 a0_8 l0_9 = some r) :
    Calls Try.prog 3 #[.agg #[.int .i64 a0_0, .int .i64 a0_1, .int .i64 a0_2, .int .i64 a0_3, .int .i64 a0_4, .slice A0_5 l0_5.length c0_5, .int .i64 a0_6, .int .i64 a0_7, .int .i64 a0_8, .slice A0_9 l0_9.length c0_9]] w fun e w' => e = .returned (.bool r) ∧ Below w.heap.size w w' := by
  have hu27 := Try.underlying27
  have hu34 := Try.underlying34
  have HR0_5 := aM hr0_5
  have HC0_5 := aM hc0_5
  clear hr0_5 hc0_5
  have HR0_9 := aM hr0_9
  have HC0_9 := aM hc0_9
  clear hr0_9 hc0_9
  have HB := aM (Below.refl w.heap.size w)
  have H := h
  clear h
  unfold laws_FnExactMsgOk.f at H
  replace H := bE H
  obtain ⟨t263, A2, H⟩ := H
  go_enter Try.func3, Try.ntmps3
  go_wp2_with (first | ((with_reducible refine gate_dst (N := 1) rfl ?_); refine gBx 1 #[.int .i64 a0_0, .int .i64 a0_1, .int .i64 a0_2, .int .i64 a0_3, .int .i64 a0_4, .slice A0_5 l0_5.length c0_5, .int .i64 a0_6, .int .i64 a0_7, .int .i64 a0_8, .slice A0_9 l0_9.length c0_9] 27 ?_; intro gb262 hg w3 hbox hb; have BK262 := aM (hbox); have GW262 := aM ((by rw [hg]; exact (below_size TB) : w.heap.size ≤ gb262)); have GE262 := aM ((by rw [hg]; exact (below_size TB) : w.heap.size ≤ gb262)); replace HB := aM (below_step TB hb); clear hb hbox hg; obtain ⟨hcz4_0, hcz4_1, hcz4_2, hcz4_3, hcz4_4, hcz4_5, hcz4_6, hcz4_7, hcz4_8, hcz4_9⟩ := cz10 BK262.out; obtain ⟨hfz4_0, hfz4_1, hfz4_2, hfz4_3, hfz4_4, hfz4_5, hfz4_6, hfz4_7, hfz4_8, hfz4_9⟩ := fz10 BK262.out) | ((with_reducible refine gate_callee (f := 7) rfl ?_); (with_reducible refine gate_dst (N := 9) rfl ?_); generalize hG_ : wpList _ _ _ _ _ _ = G_))
  subst hG_
  by_cases c5 : t263 < 0
  · rw [if_pos c5] at H
    have c5b0 : decide (t263 < 0) = true := decide_eq_true c5
    clear c5
    obtain rfl := Option.some.inj H
    go_wp2_with (first | ((with_reducible refine gate_callee (f := 7) rfl ?_); refine gL (some 9) Try.func7 #[.agg #[.int .i64 a0_0, .int .i64 a0_1, .int .i64 a0_2, .int .i64 a0_3, .int .i64 a0_4, .slice A0_5 l0_5.length c0_5, .int .i64 a0_6, .int .i64 a0_7, .int .i64 a0_8, .slice A0_9 l0_9.length c0_9], .int .i64 1048576] ?_; (with_reducible refine (laws_szMsg.calls a0_0 a0_1 a0_2 a0_3 a0_4 _ _ l0_5 a0_6 a0_7 a0_8 _ _ l0_9 1048576 t263 _ ?side1 ?side2 ?side3 ?side4 A2.out).mono ?_); (case side1 => repeat (first | exact (Kd.C_below HR0_5.out TB) | (with_reducible refine Kd.C_alloc ?_ _) | (with_reducible refine Kd.C_drewN ?_ _) | (with_reducible refine Kd.C_drew ?_))); (case side2 => exact HC0_5.out); (case side3 => repeat (first | exact (Kd.C_below HR0_9.out TB) | (with_reducible refine Kd.C_alloc ?_ _) | (with_reducible refine Kd.C_drewN ?_ _) | (with_reducible refine Kd.C_drew ?_))); (case side4 => exact HC0_9.out); rintro e w6 ⟨rfl, hb⟩; refine ⟨_, rfl, ?_⟩; replace BK262 := aM (blk_below (by have X_ := BK262.out; exact TX) hb); replace HB := aM (below_step TB hb); clear hb))
    go_ret
    exact ⟨by first | rfl | (simp [errW_none, errW_some] <;> rfl) | (simp [*, errW_none, errW_some] <;> rfl), TB⟩
  · rw [if_neg c5] at H
    have c5b0 : decide (t263 < 0) = false := decide_eq_false c5
    clear c5
    replace H := bE H
    obtain ⟨⟨t264, t265, t266, t267, t268, t269, t272, t273, t274, t275⟩, A7, H⟩ := H
    dsimp only at H
    replace H := bE H
    obtain ⟨t278, A8, H⟩ := H
    replace H := bE H
    obtain ⟨⟨t279, t280, t281, t282, t283, t284, t287, t288, t289, t290⟩, A9, H⟩ := H
    dsimp only at H
    replace H := bE H
    obtain ⟨t294, A10, H⟩ := H
    replace H := ifM H
    obtain ⟨c11, H⟩ := H
    have c11b0 : (t294 != t278) = false := by simpa using c11
    (try (have c11b1 : decide (t294 = t278) = true := by simpa using c11))
    (try (have c11b2 : (t294 == t278) = true := by simpa using c11))
    clear c11
    replace H := bE H
    obtain ⟨⟨t295, t296, t297, t298, t299, t300, t303, t304, t305, t306⟩, A12, H⟩ := H
    dsimp only at H
    replace H := bE H
    obtain ⟨t309, A13, H⟩ := H
    replace H := ifN H
    obtain ⟨c14, H⟩ := H
    subst c14
    obtain rfl := Option.some.inj H
    try go_wp2_with (first | ((with_reducible refine gate_callee (f := 7) rfl ?_); refine gL (some 9) Try.func7 #[.agg #[.int .i64 a0_0, .int .i64 a0_1, .int .i64 a0_2, .int .i64 a0_3, .int .i64 a0_4, .slice A0_5 l0_5.length c0_5, .int .i64 a0_6, .int .i64 a0_7, .int .i64 a0_8, .slice A0_9 l0_9.length c0_9], .int .i64 1048576] ?_; (with_reducible refine (laws_szMsg.calls a0_0 a0_1 a0_2 a0_3 a0_4 _ _ l0_5 a0_6 a0_7 a0_8 _ _ l0_9 1048576 t263 _ ?side1 ?side2 ?side3 ?side4 A2.out).mono ?_); (case side1 => repeat (first | exact (Kd.C_below HR0_5.out TB) | (with_reducible refine Kd.C_alloc ?_ _) | (with_reducible refine Kd.C_drewN ?_ _) | (with_reducible refine Kd.C_drew ?_))); (case side2 => exact HC0_5.out); (case side3 => repeat (first | exact (Kd.C_below HR0_9.out TB) | (with_reducible refine Kd.C_alloc ?_ _) | (with_reducible refine Kd.C_drewN ?_ _) | (with_reducible refine Kd.C_drew ?_))); (case side4 => exact HC0_9.out); rintro e w15 ⟨rfl, hb⟩; refine ⟨_, rfl, ?_⟩; replace BK262 := aM (blk_below (by have X_ := BK262.out; exact TX) hb); replace HB := aM (below_step TB hb); clear hb; obtain ⟨hcz16_0, hcz16_1, hcz16_2, hcz16_3, hcz16_4, hcz16_5, hcz16_6, hcz16_7, hcz16_8, hcz16_9⟩ := cz10 BK262.out; obtain ⟨hfz16_0, hfz16_1, hfz16_2, hfz16_3, hfz16_4, hfz16_5, hfz16_6, hfz16_7, hfz16_8, hfz16_9⟩ := fz10 BK262.out) | ((with_reducible refine gate_callee (f := 9) rfl ?_); refine gL (some 13) Try.func9 #[.agg #[.int .i64 a0_0, .int .i64 a0_1, .int .i64 a0_2, .int .i64 a0_3, .int .i64 a0_4, .slice A0_5 l0_5.length c0_5, .int .i64 a0_6, .int .i64 a0_7, .int .i64 a0_8, .slice A0_9 l0_9.length c0_9]] ?_; (with_reducible refine (laws_toMsg.calls k a0_0 a0_1 a0_2 a0_3 a0_4 _ _ l0_5 a0_6 a0_7 a0_8 _ _ l0_9 t264 t265 t266 t267 t268 t269 t272 t273 t274 t275 _ ?side1 ?side2 ?side3 ?side4 A7.out).mono ?_); (case side1 => have X_ := (Kd.C_below HR0_5.out HB.out); exact TC); (case side2 => exact HC0_5.out); (case side3 => have X_ := (Kd.C_below HR0_9.out HB.out); exact TC); (case side4 => exact HC0_9.out); rintro e w17 ⟨v270, v276, rfl, ho0, ho1, hb⟩; refine ⟨_, rfl, ?_⟩; have HO271 := aM (Kd.R_lower ho0 (below_size TB)); have HO277 := aM (Kd.R_lower ho1 (below_size TB)); replace BK262 := aM (blk_below (by have X_ := BK262.out; exact TX) hb); replace HB := aM (below_step TB hb); clear ho0 ho1 hb; obtain ⟨Ao18, co18, eo18⟩ := Kd.R_slice HO271.out; subst eo18; obtain ⟨Ao19, co19, eo19⟩ := Kd.R_slice HO277.out; subst eo19) | ((with_reducible refine gate_callee (f := 8) rfl ?_); refine gL (some 14) Try.func8 #[.agg #[.int .i64 t264, .int .i64 t265, .int .i64 t266, .int .i64 t267, .int .i64 t268, .slice Ao18 t269.length co18, .int .i64 t272, .int .i64 t273, .int .i64 t274, .slice Ao19 t275.length co19]] ?_; (with_reducible refine (spec_MsgOk.calls k t264 t265 t266 t267 t268 _ _ t269 t272 t273 t274 _ _ t275 t278 _ ?side1 ?side2 ?side3 ?side4 A8.out).mono ?_); (case side1 => have X_ := (Kd.R_reads' HO271.out).2.2; exact TC); (case side2 => exact (Kd.R_reads' HO271.out).2.1); (case side3 => have X_ := (Kd.R_reads' HO277.out).2.2; exact TC); (case side4 => exact (Kd.R_reads' HO277.out).2.1); rintro e w20 ⟨rfl, hb⟩; refine ⟨_, rfl, ?_⟩; replace HO271 := aM (Kd.R_below (by have X_ := HO271.out; exact TR) hb); replace HO277 := aM (Kd.R_below (by have X_ := HO277.out; exact TR) hb); replace BK262 := aM (blk_below (by have X_ := BK262.out; exact TX) hb); replace HB := aM (below_step TB hb); clear hb; obtain ⟨hcz21_0, hcz21_1, hcz21_2, hcz21_3, hcz21_4, hcz21_5, hcz21_6, hcz21_7, hcz21_8, hcz21_9⟩ := cz10 BK262.out; obtain ⟨hfz21_0, hfz21_1, hfz21_2, hfz21_3, hfz21_4, hfz21_5, hfz21_6, hfz21_7, hfz21_8, hfz21_9⟩ := fz10 BK262.out) | ((with_reducible refine gate_callee (f := 9) rfl ?_); refine gL (some 16) Try.func9 #[.agg #[.int .i64 a0_0, .int .i64 a0_1, .int .i64 a0_2, .int .i64 a0_3, .int .i64 a0_4, .slice A0_5 l0_5.length c0_5, .int .i64 a0_6, .int .i64 a0_7, .int .i64 a0_8, .slice A0_9 l0_9.length c0_9]] ?_; (with_reducible refine (laws_toMsg.calls k a0_0 a0_1 a0_2 a0_3 a0_4 _ _ l0_5 a0_6 a0_7 a0_8 _ _ l0_9 t279 t280 t281 t282 t283 t284 t287 t288 t289 t290 _ ?side1 ?side2 ?side3 ?side4 A9.out).mono ?_); (case side1 => have X_ := (Kd.C_below HR0_5.out HB.out); exact TC); (case side2 => exact HC0_5.out); (case side3 => have X_ := (Kd.C_below HR0_9.out HB.out); exact TC); (case side4 => exact HC0_9.out); rintro e w22 ⟨v285, v291, rfl, ho0, ho1, hb⟩; refine ⟨_, rfl, ?_⟩; have HO286 := aM (Kd.R_lower (Kd.R_new' ho0 (Kd.R_lt (by have X_ := HO271.out; exact TR))) (below_size TB)); have HO292 := aM (Kd.R_lower (Kd.R_new' ho1 (Kd.R_lt (by have X_ := HO277.out; exact TR))) (below_size TB)); replace HO271 := aM (Kd.R_elder' (by have X_ := HO271.out; exact TR) (Kd.R_base ho0) hb); replace HO277 := aM (Kd.R_elder' (by have X_ := HO277.out; exact TR) (Kd.R_base ho1) hb); replace BK262 := aM (blk_below (by have X_ := BK262.out; exact TX) hb); replace HB := aM (below_step TB hb); clear ho0 ho1 hb) | ((with_reducible refine gate_dst (N := 5) rfl ?_); refine gBx 5 #[.int .i64 0, .int .i64 0, .int .i64 0, .int .i64 0, .int .i64 0, .slice none 0 0, .int .i64 0, .int .i64 0, .int .i64 0, .slice none 0 0] 34 ?_; intro gb293 hg w23 hbox hb; have BK293 := aM (hbox); have GW293 := aM ((by rw [hg]; exact (below_size TB) : w.heap.size ≤ gb293)); have GE293 := aM ((by rw [hg]; exact (below_size TB) : w.heap.size ≤ gb293)); have NB262_293 := aM ((by rw [hg]; exact Nat.ne_of_lt (blk_lt (by have X_ := BK262.out; exact TX)) : gb262 ≠ gb293)); have NB293_262 := aM ((by rw [hg]; exact Nat.ne_of_gt (blk_lt (by have X_ := BK262.out; exact TX)) : gb293 ≠ gb262)); replace HO271 := aM (Kd.R_below (by have X_ := HO271.out; exact TR) hb); replace HO277 := aM (Kd.R_below (by have X_ := HO277.out; exact TR) hb); replace HO286 := aM (Kd.R_below (by have X_ := HO286.out; exact TR) hb); replace HO292 := aM (Kd.R_below (by have X_ := HO292.out; exact TR) hb); replace BK262 := aM (blk_below (by have X_ := BK262.out; exact TX) hb); replace HB := aM (below_step TB hb); clear hb hbox hg; have hnb24 := NB293_262.out; have hnc24 := NB262_293.out; obtain ⟨hcz25_0, hcz25_1, hcz25_2, hcz25_3, hcz25_4, hcz25_5, hcz25_6, hcz25_7, hcz25_8, hcz25_9⟩ := cz10 BK293.out; obtain ⟨hfz25_0, hfz25_1, hfz25_2, hfz25_3, hfz25_4, hfz25_5, hfz25_6, hfz25_7, hfz25_8, hfz25_9⟩ := fz10 BK293.out; obtain ⟨Ao26, co26, eo26⟩ := Kd.R_slice HO286.out; subst eo26; obtain ⟨Ao27, co27, eo27⟩ := Kd.R_slice HO292.out; subst eo27) | ((with_reducible refine gate_callee (f := 10) rfl ?_); refine gL (some 18) Try.func10 #[.agg #[.int .i64 t279, .int .i64 t280, .int .i64 t281, .int .i64 t282, .int .i64 t283, .slice Ao26 t284.length co26, .int .i64 t287, .int .i64 t288, .int .i64 t289, .slice Ao27 t290.length co27]] ?_; (with_reducible refine (impl_MsgOk.calls k t279 t280 t281 t282 t283 _ _ t284 t287 t288 t289 _ _ t290 t294 _ ?side1 ?side2 ?side3 ?side4 A10.out).mono ?_); (case side1 => refine (Kd.R_reads' (e := 76) (base := w.heap.size) (ok := fun k_ => (True ∧ some k_ ≠ (.slice Ao18 t269.length co18 : Value).ownBlock)) (n := t284.length) (c := co26) ?_).2.2; exact (by (with_reducible repeat (first | apply Kd.R_alloc | apply Kd.R_drewN | apply Kd.R_drew)); exact (R_off (Kd.R_types HO286.out BK293.out (by decide)) TO))); (case side2 => exact (Kd.R_reads' HO286.out).2.1); (case side3 => refine (Kd.R_reads' (e := 5) (base := w.heap.size) (ok := fun k_ => (True ∧ some k_ ≠ (.slice Ao19 t275.length co19 : Value).ownBlock)) (n := t290.length) (c := co27) ?_).2.2; exact (by (with_reducible repeat (first | apply Kd.R_alloc | apply Kd.R_drewN | apply Kd.R_drew)); exact (R_off (Kd.R_types HO292.out BK293.out (by decide)) TO))); (case side4 => exact (Kd.R_reads' HO292.out).2.1); rintro e w28 ⟨rfl, hb⟩; refine ⟨_, rfl, ?_⟩; replace HO271 := aM (Kd.R_below (by (with_reducible repeat (first | apply Kd.R_alloc | apply Kd.R_drewN | apply Kd.R_drew)); exact (R_off (Kd.R_types HO271.out BK293.out (by decide)) TO)) hb); replace HO277 := aM (Kd.R_below (by (with_reducible repeat (first | apply Kd.R_alloc | apply Kd.R_drewN | apply Kd.R_drew)); exact (R_off (Kd.R_types HO277.out BK293.out (by decide)) TO)) hb); replace HO286 := aM (Kd.R_below (by (with_reducible repeat (first | apply Kd.R_alloc | apply Kd.R_drewN | apply Kd.R_drew)); exact (R_off (Kd.R_types HO286.out BK293.out (by decide)) TO)) hb); replace HO292 := aM (Kd.R_below (by (with_reducible repeat (first | apply Kd.R_alloc | apply Kd.R_drewN | apply Kd.R_drew)); exact (R_off (Kd.R_types HO292.out BK293.out (by decide)) TO)) hb); replace BK262 := aM (blk_below (g := gb262) (o := .cells #[.int .i64 a0_0, .int .i64 a0_1, .int .i64 a0_2, .int .i64 a0_3, .int .i64 a0_4, .slice A0_5 l0_5.length c0_5, .int .i64 a0_6, .int .i64 a0_7, .int .i64 a0_8, .slice A0_9 l0_9.length c0_9] 27 (0, 0)) (by (with_reducible repeat (first | refine blk_drewN ?_ _ | refine blk_drew ?_ | refine blk_alloc ?_ _)); refine blk_far ?_ NB262_293.out _; (with_reducible repeat (first | refine blk_drewN ?_ _ | refine blk_drew ?_ | refine blk_alloc ?_ _)); refine blk_far ?_ NB262_293.out _; (with_reducible repeat (first | refine blk_drewN ?_ _ | refine blk_drew ?_ | refine blk_alloc ?_ _)); refine blk_far ?_ NB262_293.out _; (with_reducible repeat (first | refine blk_drewN ?_ _ | refine blk_drew ?_ | refine blk_alloc ?_ _)); refine blk_far ?_ NB262_293.out _; (with_reducible repeat (first | refine blk_drewN ?_ _ | refine blk_drew ?_ | refine blk_alloc ?_ _)); refine blk_far ?_ NB262_293.out _; (with_reducible repeat (first | refine blk_drewN ?_ _ | refine blk_drew ?_ | refine blk_alloc ?_ _)); refine blk_far ?_ NB262_293.out _; (with_reducible repeat (first | refine blk_drewN ?_ _ | refine blk_drew ?_ | refine blk_alloc ?_ _)); refine blk_far ?_ NB262_293.out _; (with_reducible repeat (first | refine blk_drewN ?_ _ | refine blk_drew ?_ | refine blk_alloc ?_ _)); refine blk_far ?_ NB262_293.out _; (with_reducible repeat (first | refine blk_drewN ?_ _ | refine blk_drew ?_ | refine blk_alloc ?_ _)); refine blk_far ?_ NB262_293.out _; (with_reducible repeat (first | refine blk_drewN ?_ _ | refine blk_drew ?_ | refine blk_alloc ?_ _)); refine blk_far ?_ NB262_293.out _; (with_reducible repeat (first | refine blk_drewN ?_ _ | refine blk_drew ?_ | refine blk_alloc ?_ _)); exact BK262.out) hb); replace BK293 := aM (blk_below (g := gb293) (o := .cells #[.int .i64 t279, .int .i64 t280, .int .i64 t281, .int .i64 t282, .int .i64 t283, .slice Ao26 t284.length co26, .int .i64 t287, .int .i64 t288, .int .i64 t289, .slice Ao27 t290.length co27] 34 (0, 0)) (by (with_reducible repeat (first | refine blk_drewN ?_ _ | refine blk_drew ?_ | refine blk_alloc ?_ _)); refine blk_put (cs := #[.int .i64 t279, .int .i64 t280, .int .i64 t281, .int .i64 t282, .int .i64 t283, .slice Ao26 t284.length co26, .int .i64 t287, .int .i64 t288, .int .i64 t289, .slice none 0 0]) ?_ 9 _ rfl; (with_reducible repeat (first | refine blk_drewN ?_ _ | refine blk_drew ?_ | refine blk_alloc ?_ _)); refine blk_put (cs := #[.int .i64 t279, .int .i64 t280, .int .i64 t281, .int .i64 t282, .int .i64 t283, .slice Ao26 t284.length co26, .int .i64 t287, .int .i64 t288, .int .i64 0, .slice none 0 0]) ?_ 8 _ rfl; (with_reducible repeat (first | refine blk_drewN ?_ _ | refine blk_drew ?_ | refine blk_alloc ?_ _)); refine blk_put (cs := #[.int .i64 t279, .int .i64 t280, .int .i64 t281, .int .i64 t282, .int .i64 t283, .slice Ao26 t284.length co26, .int .i64 t287, .int .i64 0, .int .i64 0, .slice none 0 0]) ?_ 7 _ rfl; (with_reducible repeat (first | refine blk_drewN ?_ _ | refine blk_drew ?_ | refine blk_alloc ?_ _)); refine blk_put (cs := #[.int .i64 t279, .int .i64 t280, .int .i64 t281, .int .i64 t282, .int .i64 t283, .slice Ao26 t284.length co26, .int .i64 0, .int .i64 0, .int .i64 0, .slice none 0 0]) ?_ 6 _ rfl; (with_reducible repeat (first | refine blk_drewN ?_ _ | refine blk_drew ?_ | refine blk_alloc ?_ _)); refine blk_put (cs := #[.int .i64 t279, .int .i64 t280, .int .i64 t281, .int .i64 t282, .int .i64 t283, .slice none 0 0, .int .i64 0, .int .i64 0, .int .i64 0, .slice none 0 0]) ?_ 5 _ rfl; (with_reducible repeat (first | refine blk_drewN ?_ _ | refine blk_drew ?_ | refine blk_alloc ?_ _)); refine blk_put (cs := #[.int .i64 t279, .int .i64 t280, .int .i64 t281, .int .i64 t282, .int .i64 0, .slice none 0 0, .int .i64 0, .int .i64 0, .int .i64 0, .slice none 0 0]) ?_ 4 _ rfl; (with_reducible repeat (first | refine blk_drewN ?_ _ | refine blk_drew ?_ | refine blk_alloc ?_ _)); refine blk_put (cs := #[.int .i64 t279, .int .i64 t280, .int .i64 t281, .int .i64 0, .int .i64 0, .slice none 0 0, .int .i64 0, .int .i64 0, .int .i64 0, .slice none 0 0]) ?_ 3 _ rfl; (with_reducible repeat (first | refine blk_drewN ?_ _ | refine blk_drew ?_ | refine blk_alloc ?_ _)); refine blk_put (cs := #[.int .i64 t279, .int .i64 t280, .int .i64 0, .int .i64 0, .int .i64 0, .slice none 0 0, .int .i64 0, .int .i64 0, .int .i64 0, .slice none 0 0]) ?_ 2 _ rfl; (with_reducible repeat (first | refine blk_drewN ?_ _ | refine blk_drew ?_ | refine blk_alloc ?_ _)); refine blk_put (cs := #[.int .i64 t279, .int .i64 0, .int .i64 0, .int .i64 0, .int .i64 0, .slice none 0 0, .int .i64 0, .int .i64 0, .int .i64 0, .slice none 0 0]) ?_ 1 _ rfl; (with_reducible repeat (first | refine blk_drewN ?_ _ | refine blk_drew ?_ | refine blk_alloc ?_ _)); refine blk_put (cs := #[.int .i64 0, .int .i64 0, .int .i64 0, .int .i64 0, .int .i64 0, .slice none 0 0, .int .i64 0, .int .i64 0, .int .i64 0, .slice none 0 0]) ?_ 0 _ rfl; (with_reducible repeat (first | refine blk_drewN ?_ _ | refine blk_drew ?_ | refine blk_alloc ?_ _)); exact BK293.out) hb); replace HB := aM (below_step TB hb); clear hb))
    replace HO271 := aM (Kd.R_drew HO271.out)
    replace HO277 := aM (Kd.R_drew HO277.out)
    replace HO286 := aM (Kd.R_drew HO286.out)
    replace HO292 := aM (Kd.R_drew HO292.out)
    replace BK262 := aM (blk_drew BK262.out)
    replace BK293 := aM (blk_drew BK293.out)
    replace HB := aM (below_drew1 HB.out)
    refine start_ (n := 5) (S := fun w' => w'.cell? ⟨gb293, 0, none⟩ = some (.int .i64 t279) ∧ w'.cell? ⟨gb293, 1, none⟩ = some (.int .i64 t280) ∧ w'.cell? ⟨gb293, 2, none⟩ = some (.int .i64 t281) ∧ w'.cell? ⟨gb293, 3, none⟩ = some (.int .i64 t282) ∧ w'.cell? ⟨gb293, 4, none⟩ = some (.int .i64 t283) ∧ w'.cell? ⟨gb293, 5, none⟩ = some (.slice Ao26 t284.length co26) ∧ w'.cell? ⟨gb293, 6, none⟩ = some (.int .i64 t287) ∧ w'.cell? ⟨gb293, 7, none⟩ = some (.int .i64 t288) ∧ w'.cell? ⟨gb293, 8, none⟩ = some (.int .i64 t289) ∧ w'.cell? ⟨gb293, 9, none⟩ = some (.slice Ao27 t290.length co27) ∧ w'.cell? ⟨gb262, 0, none⟩ = some (.int .i64 a0_0) ∧ w'.cell? ⟨gb262, 1, none⟩ = some (.int .i64 a0_1) ∧ w'.cell? ⟨gb262, 2, none⟩ = some (.int .i64 a0_2) ∧ w'.cell? ⟨gb262, 3, none⟩ = some (.int .i64 a0_3) ∧ w'.cell? ⟨gb262, 4, none⟩ = some (.int .i64 a0_4) ∧ w'.cell? ⟨gb262, 5, none⟩ = some (.slice A0_5 l0_5.length c0_5) ∧ w'.cell? ⟨gb262, 6, none⟩ = some (.int .i64 a0_6) ∧ w'.cell? ⟨gb262, 7, none⟩ = some (.int .i64 a0_7) ∧ w'.cell? ⟨gb262, 8, none⟩ = some (.int .i64 a0_8) ∧ w'.cell? ⟨gb262, 9, none⟩ = some (.slice A0_9 l0_9.length c0_9)) (ds := []) (Array.replicate 5 false) (by kernel_rfl) rfl rfl ⟨(blk_cell BK293.out 0).trans rfl, (blk_cell BK293.out 1).trans rfl, (blk_cell BK293.out 2).trans rfl, (blk_cell BK293.out 3).trans rfl, (blk_cell BK293.out 4).trans rfl, (blk_cell BK293.out 5).trans rfl, (blk_cell BK293.out 6).trans rfl, (blk_cell BK293.out 7).trans rfl, (blk_cell BK293.out 8).trans rfl, (blk_cell BK293.out 9).trans rfl, (blk_cell BK262.out 0).trans rfl, (blk_cell BK262.out 1).trans rfl, (blk_cell BK262.out 2).trans rfl, (blk_cell BK262.out 3).trans rfl, (blk_cell BK262.out 4).trans rfl, (blk_cell BK262.out 5).trans rfl, (blk_cell BK262.out 6).trans rfl, (blk_cell BK262.out 7).trans rfl, (blk_cell BK262.out 8).trans rfl, (blk_cell BK262.out 9).trans rfl⟩ (fun hHeld => ?_)
    generalize w28.drew = w29 at HO271 HO277 HO286 HO292 BK262 BK293 HB hHeld ⊢
    refine pT 0 (some 22) ?_
    refine pT 1 (some 23) ?_
    refine pO 2 (some 24) (fun K hK => ?_)
    refine gG Try.func9 #[.agg #[.int .i64 a0_0, .int .i64 a0_1, .int .i64 a0_2, .int .i64 a0_3, .int .i64 a0_4, .slice A0_5 l0_5.length c0_5, .int .i64 a0_6, .int .i64 a0_7, .int .i64 a0_8, .slice A0_9 l0_9.length c0_9]] ?_
    with_reducible refine (laws_toMsg.calls k a0_0 a0_1 a0_2 a0_3 a0_4 _ _ l0_5 a0_6 a0_7 a0_8 _ _ l0_9 t295 t296 t297 t298 t299 t300 t303 t304 t305 t306 _ ?side1 ?side2 ?side3 ?side4 A12.out).mono ?_
    (case side1 => have X_ := (Kd.C_below HR0_5.out HB.out); exact TC)
    (case side2 => exact HC0_5.out)
    (case side3 => have X_ := (Kd.C_below HR0_9.out HB.out); exact TC)
    (case side4 => exact HC0_9.out)
    rintro e w30 ⟨v301, v307, rfl, ho0, ho1, hb⟩
    refine ⟨_, rfl, ?_⟩
    have n0_ := aM (Kd.R_elder' (by have X_ := HO271.out; exact TR) (Kd.R_base ho0) hb)
    have n1_ := aM (Kd.R_elder' (by have X_ := HO277.out; exact TR) (Kd.R_base ho1) hb)
    have n2_ := aM (Kd.R_elder' (by have X_ := HO286.out; exact TR) (Kd.R_base ho0) hb)
    have n3_ := aM (Kd.R_elder' (by have X_ := HO292.out; exact TR) (Kd.R_base ho1) hb)
    have n4_ := aM (Kd.R_lower (Kd.R_new' (Kd.R_new' ho0 (Kd.R_lt (by have X_ := HO271.out; exact TR))) (Kd.R_lt (by have X_ := HO286.out; exact TR))) (below_size TB))
    have n5_ := aM (Kd.R_lower (Kd.R_new' (Kd.R_new' ho1 (Kd.R_lt (by have X_ := HO277.out; exact TR))) (Kd.R_lt (by have X_ := HO292.out; exact TR))) (below_size TB))
    have n6_ := aM (blk_below (by have X_ := BK262.out; exact TX) hb)
    have n7_ := aM (blk_below (by have X_ := BK293.out; exact TX) hb)
    have n8_ := aM (below_step TB hb)
    clear HO271
    clear HO277
    clear HO286
    clear HO292
    clear BK262
    clear BK293
    clear HB
    have HO271 := n0_
    have HO277 := n1_
    have HO286 := n2_
    have HO292 := n3_
    have HO302 := n4_
    have HO308 := n5_
    have BK262 := n6_
    have BK293 := n7_
    have HB := n8_
    clear n0_ n1_ n2_ n3_ n4_ n5_ n6_ n7_ n8_
    (try clear hb)
    (try clear hb2)
    (try clear hk)
    (try clear hi)
    (try clear ho0)
    (try clear ho1)
    obtain ⟨Ao31, co31, eo31⟩ := Kd.R_slice HO302.out
    (first | subst eo31 | (injection eo31 with f1_ f2_ f3_; have f4_ := f1_.symm; have f5_ := f3_.symm; clear f1_ f2_ f3_; subst f4_; subst f5_))
    obtain ⟨Ao32, co32, eo32⟩ := Kd.R_slice HO308.out
    (first | subst eo32 | (injection eo32 with f1_ f2_ f3_; have f4_ := f1_.symm; have f5_ := f3_.symm; clear f1_ f2_ f3_; subst f4_; subst f5_))
    refine hK.out _ _ ⟨(blk_cell BK293.out 0).trans rfl, (blk_cell BK293.out 1).trans rfl, (blk_cell BK293.out 2).trans rfl, (blk_cell BK293.out 3).trans rfl, (blk_cell BK293.out 4).trans rfl, (blk_cell BK293.out 5).trans rfl, (blk_cell BK293.out 6).trans rfl, (blk_cell BK293.out 7).trans rfl, (blk_cell BK293.out 8).trans rfl, (blk_cell BK293.out 9).trans rfl, (blk_cell BK262.out 0).trans rfl, (blk_cell BK262.out 1).trans rfl, (blk_cell BK262.out 2).trans rfl, (blk_cell BK262.out 3).trans rfl, (blk_cell BK262.out 4).trans rfl, (blk_cell BK262.out 5).trans rfl, (blk_cell BK262.out 6).trans rfl, (blk_cell BK262.out 7).trans rfl, (blk_cell BK262.out 8).trans rfl, (blk_cell BK262.out 9).trans rfl⟩ (fun hHeld => ?_)
    clear hK K
    refine nR ?_
    refine pO 3 (some 25) (fun K hK => ?_)
    refine gG Try.func11 #[.agg #[.int .i64 t279, .int .i64 t280, .int .i64 t281, .int .i64 t282, .int .i64 t283, .slice Ao26 t284.length co26, .int .i64 t287, .int .i64 t288, .int .i64 t289, .slice Ao27 t290.length co27], .agg #[.int .i64 t295, .int .i64 t296, .int .i64 t297, .int .i64 t298, .int .i64 t299, .slice Ao31 t300.length co31, .int .i64 t303, .int .i64 t304, .int .i64 t305, .slice Ao32 t306.length co32]] ?_
    with_reducible refine (laws_eqMsg.calls k t279 t280 t281 t282 t283 _ _ t284 t287 t288 t289 _ _ t290 t295 t296 t297 t298 t299 _ _ t300 t303 t304 t305 _ _ t306 true _ ?side1 ?side2 ?side3 ?side4 ?side5 ?side6 ?side7 ?side8 A13.out).mono ?_
    (case side1 => have X_ := (Kd.R_reads' HO286.out).2.2; exact TC)
    (case side2 => exact (Kd.R_reads' HO286.out).2.1)
    (case side3 => have X_ := (Kd.R_reads' HO292.out).2.2; exact TC)
    (case side4 => exact (Kd.R_reads' HO292.out).2.1)
    (case side5 => have X_ := (Kd.R_reads' HO302.out).2.2; exact TC)
    (case side6 => exact (Kd.R_reads' HO302.out).2.1)
    (case side7 => have X_ := (Kd.R_reads' HO308.out).2.2; exact TC)
    (case side8 => exact (Kd.R_reads' HO308.out).2.1)
    rintro e w33 ⟨rfl, hb⟩
    refine ⟨_, rfl, ?_⟩
    have n0_ := aM (Kd.R_below (by have X_ := HO271.out; exact TR) hb)
    have n1_ := aM (Kd.R_below (by have X_ := HO277.out; exact TR) hb)
    have n2_ := aM (Kd.R_below (by have X_ := HO286.out; exact TR) hb)
    have n3_ := aM (Kd.R_below (by have X_ := HO292.out; exact TR) hb)
    have n4_ := aM (Kd.R_below (by have X_ := HO302.out; exact TR) hb)
    have n5_ := aM (Kd.R_below (by have X_ := HO308.out; exact TR) hb)
    have n6_ := aM (blk_below (by have X_ := BK262.out; exact TX) hb)
    have n7_ := aM (blk_below (by have X_ := BK293.out; exact TX) hb)
    have n8_ := aM (below_step TB hb)
    clear HO271
    clear HO277
    clear HO286
    clear HO292
    clear HO302
    clear HO308
    clear BK262
    clear BK293
    clear HB
    have HO271 := n0_
    have HO277 := n1_
    have HO286 := n2_
    have HO292 := n3_
    have HO302 := n4_
    have HO308 := n5_
    have BK262 := n6_
    have BK293 := n7_
    have HB := n8_
    clear n0_ n1_ n2_ n3_ n4_ n5_ n6_ n7_ n8_
    (try clear hb)
    (try clear hb2)
    (try clear hk)
    (try clear hi)
    refine hK.out _ _ ⟨(blk_cell BK293.out 0).trans rfl, (blk_cell BK293.out 1).trans rfl, (blk_cell BK293.out 2).trans rfl, (blk_cell BK293.out 3).trans rfl, (blk_cell BK293.out 4).trans rfl, (blk_cell BK293.out 5).trans rfl, (blk_cell BK293.out 6).trans rfl, (blk_cell BK293.out 7).trans rfl, (blk_cell BK293.out 8).trans rfl, (blk_cell BK293.out 9).trans rfl, (blk_cell BK262.out 0).trans rfl, (blk_cell BK262.out 1).trans rfl, (blk_cell BK262.out 2).trans rfl, (blk_cell BK262.out 3).trans rfl, (blk_cell BK262.out 4).trans rfl, (blk_cell BK262.out 5).trans rfl, (blk_cell BK262.out 6).trans rfl, (blk_cell BK262.out 7).trans rfl, (blk_cell BK262.out 8).trans rfl, (blk_cell BK262.out 9).trans rfl⟩ (fun hHeld => ?_)
    clear hK K
    refine nR ?_
    refine pP 4 (some 26) ?_
    refine done_ (by kernel_rfl) ?_
    try go_wp2
    go_ret
    exact ⟨by first | rfl | (simp [errW_none, errW_some] <;> rfl) | (simp [*, errW_none, errW_some] <;> rfl), TB⟩

end Go.Proofs.Ytdohjkbgbplgmaa.Q
