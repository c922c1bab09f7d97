/- Functions of the program as plain Lean functions, and that a call of each comes to what its function tells. Written by a program of this seat. -/
import Derived.Test.YtdohjkbgbplgmaaQ0
import Derived.Test.YtdohjkbgbplgmaaQ4
import Derived.Test.YtdohjkbgbplgmaaQ6
import Derived.Test.YtdohjkbgbplgmaaQ15
namespace Go.Proofs.Ytdohjkbgbplgmaa.Q
open Go.RowKit Go.Proofs.YtdohjkbgbplgmaaW.PrintWords Go.Proofs.YtdohjkbgbplgmaaW.PrintLast Go.Proofs.YtdohjkbgbplgmaaW.PrintMore
attribute [local go_sem] max2_int min2_int max_two min_two max_three min_three max_four min_four   -- for this text's walks alone
set_option linter.unusedVariables false
set_option linter.unusedSimpArgs false

/-! ### spec_PutMsg: function 12 -/
def spec_PutMsg.f (k : Nat) (a0_0 : Int) (a0_1 : Int) (a0_2 : Int) (a0_3 : Int) (a0_4 : Int) (l0_5 : List (S76)) (a0_6 : Int) (a0_7 : Int) (a0_8 : Int) (l0_9 : List Int) : Option (List Int) := (spec_MsgOk.f k a0_0 a0_1 a0_2 a0_3 a0_4 l0_5 a0_6 a0_7 a0_8 l0_9).bind fun t357 => (if t357 = true then ((spec_PutVar.f k (([] : List Int)) a0_0).bind fun t364 => (if a0_0 = 1 then ((spec_PutMan.f k t364 a0_2 a0_3 a0_4 l0_5).bind fun t367 => ((spec_WeakOf.f k t367).bind fun t370 => ((spec_PutVar.f k t367 t370).bind fun t371 => (some t371)))) else (if a0_0 = 2 then ((spec_l12Half.f a0_6).bind fun bt374 => ((spec_PutVar.f k t364 a0_1).bind fun t376 => ((spec_PutVar.f k t376 bt374.1).bind fun t379 => ((spec_PutVar.f k t379 bt374.2).bind fun t382 => ((spec_l12Half.f a0_7).bind fun bt385 => ((spec_PutVar.f k t382 bt385.1).bind fun t387 => ((spec_PutVar.f k t387 bt385.2).bind fun t390 => ((spec_WeakOf.f k t390).bind fun t393 => ((spec_PutVar.f k t390 t393).bind fun t394 => (some t394)))))))))) else (if a0_0 = 3 then ((spec_PutVar.f k t364 a0_1).bind fun t397 => ((spec_PutVar.f k t397 a0_8).bind fun t400 => ((spec_PutPart.f k t400 l0_9).bind fun t403 => ((spec_WeakOf.f k t403).bind fun t406 => ((spec_PutVar.f k t403 t406).bind fun t407 => (some t407)))))) else ((spec_PutVar.f k t364 a0_1).bind fun t410 => ((spec_WeakOf.f k t410).bind fun t413 => ((spec_PutVar.f k t410 t413).bind fun t414 => (some t414)))))))) else (some (([] : List Int))))
theorem spec_PutMsg.mono : ∀ a0 a1 a2 a3 a4 a5 a6 a7 a8 a9 k, LeO (spec_PutMsg.f k a0 a1 a2 a3 a4 a5 a6 a7 a8 a9) (spec_PutMsg.f (k + 1) a0 a1 a2 a3 a4 a5 a6 a7 a8 a9) := by
  intro a0 a1 a2 a3 a4 a5 a6 a7 a8 a9 k
  have m0_ := @spec_MsgOk.mono
  have m1_ := @spec_PutMan.mono
  have m2_ := @spec_PutPart.mono
  have m3_ := @spec_PutVar.mono
  have m4_ := @spec_WeakOf.mono
  unfold spec_PutMsg.f
  exact LM
def spec_PutMsg.T14 : Bool × List (List Nat × List Nat) := (true, [([], []), ([], []), ([1], [1]), ([0, 2], [0, 2]), ([], []), ([4], [4]), ([3, 5, 3], [3, 5]), ([], []), ([7], [7]), ([6, 8, 6], [6, 8]), ([9, 9, 0, 1, 2, 3, 4, 5, 6, 7, 8, 9], [0, 9])])
def spec_PutMsg.B14 : List Nat := [0, 0, 2, 7, 0, 16, 63, 0, 128, 511, 1023]
theorem spec_PutMsg.tab14 : rtab .any (opsOf Try.f12 14) = spec_PutMsg.T14 := by kernel_rfl
theorem spec_PutMsg.bits14 : waitsOk spec_PutMsg.T14.2 spec_PutMsg.B14 = true := by kernel_rfl
set_option maxHeartbeats 40000000 in
set_option maxRecDepth 100000 in
theorem spec_PutMsg.calls (k : Nat) (a0_0 : Int) (a0_1 : Int) (a0_2 : Int) (a0_3 : Int) (a0_4 : Int) (A0_5 : Option Addr) (c0_5 : Nat) (l0_5 : List (S76)) (a0_6 : Int) (a0_7 : Int) (a0_8 : Int) (A0_9 : Option Addr) (c0_9 : Nat) (l0_9 : List Int) (r : List Int) (w : World) (hr0_5 : Kd.C k76 w A0_5 l0_5.length l0_5) (hc0_5 : l0_5.length ≤ c0_5) (hr0_9 : Kd.C (Kd.int .u8) w A0_9 l0_9.length l0_9) (hc0_9 : l0_9.length ≤ c0_9) (h : spec_PutMsg.f k a0_0 a0_1 a0_2 a0_3 a0_4 l0_5 a0_6 a0_7 a0_8 l0_9 = some r) :
    Calls Try.prog 12 #[.agg #[.int .i64 a0_0, .int .i64 a0_1, .int .i64 a0_2, .int .i64 a0_3, .int .i64 a0_4, .slice A0_5 l0_5.length c0_5, .int .i64 a0_6, .int .i64 a0_7, .int .i64 a0_8, .slice A0_9 l0_9.length c0_9]] w fun e w' => ∃ v0_ : Value, e = .returned (v0_) ∧ Kd.R (Kd.int .u8) 5 w' w.heap.size (fun _ => True) v0_ r ∧ Below w.heap.size w w' := by
  have hu34 := Try.underlying34
  have hu32 := Try.underlying32
  have HR0_5 := aM hr0_5
  have HC0_5 := aM hc0_5
  clear hr0_5 hc0_5
  have HR0_9 := aM hr0_9
  have HC0_9 := aM hc0_9
  clear hr0_9 hc0_9
  have HB := aM (Below.refl w.heap.size w)
  have H := h
  clear h
  unfold spec_PutMsg.f at H
  replace H := bE H
  obtain ⟨t357, A2, H⟩ := H
  go_enter Try.func12, Try.ntmps12
  go_wp2_with (first | ((with_reducible refine gate_dst (N := 1) rfl ?_); refine gBx 1 #[.int .i64 a0_0, .int .i64 a0_1, .int .i64 a0_2, .int .i64 a0_3, .int .i64 a0_4, .slice A0_5 l0_5.length c0_5, .int .i64 a0_6, .int .i64 a0_7, .int .i64 a0_8, .slice A0_9 l0_9.length c0_9] 34 ?_; intro gb356 hg w4 hbox hb; have BK356 := aM (hbox); have GW356 := aM ((by rw [hg]; exact (below_size TB) : w.heap.size ≤ gb356)); have GE356 := aM ((by rw [hg]; exact (below_size TB) : w.heap.size ≤ gb356)); replace HB := aM (below_step TB hb); clear hb hbox hg; obtain ⟨hcz5_0, hcz5_1, hcz5_2, hcz5_3, hcz5_4, hcz5_5, hcz5_6, hcz5_7, hcz5_8, hcz5_9⟩ := cz10 BK356.out; obtain ⟨hfz5_0, hfz5_1, hfz5_2, hfz5_3, hfz5_4, hfz5_5, hfz5_6, hfz5_7, hfz5_8, hfz5_9⟩ := fz10 BK356.out) | ((with_reducible refine gate_callee (f := 8) rfl ?_); (with_reducible refine gate_dst (N := 7) rfl ?_); generalize hG_ : wpList _ _ _ _ _ _ = G_))
  subst hG_
  by_cases c6 : t357 = true
  · subst c6
    replace H := ifT H
    obtain ⟨y361, hy361⟩ : ∃ y_ : List Int, y_ = (([] : List Int)) := ⟨_, rfl⟩
    rw [← hy361] at H
    have Ny361 := aM hy361
    clear hy361
    replace H := bE H
    obtain ⟨t364, A7, H⟩ := H
    go_wp2_with (first | ((with_reducible refine gate_callee (f := 8) rfl ?_); refine gL (some 7) Try.func8 #[.agg #[.int .i64 a0_0, .int .i64 a0_1, .int .i64 a0_2, .int .i64 a0_3, .int .i64 a0_4, .slice A0_5 l0_5.length c0_5, .int .i64 a0_6, .int .i64 a0_7, .int .i64 a0_8, .slice A0_9 l0_9.length c0_9]] ?_; (with_reducible refine (spec_MsgOk.calls k a0_0 a0_1 a0_2 a0_3 a0_4 _ _ l0_5 a0_6 a0_7 a0_8 _ _ l0_9 true _ ?side1 ?side2 ?side3 ?side4 A2.out).mono ?_); (case side1 => repeat (first | exact (Kd.C_below HR0_5.out TB) | (with_reducible refine Kd.C_alloc ?_ _) | (with_reducible refine Kd.C_drewN ?_ _) | (with_reducible refine Kd.C_drew ?_))); (case side2 => exact HC0_5.out); (case side3 => repeat (first | exact (Kd.C_below HR0_9.out TB) | (with_reducible refine Kd.C_alloc ?_ _) | (with_reducible refine Kd.C_drewN ?_ _) | (with_reducible refine Kd.C_drew ?_))); (case side4 => exact HC0_9.out); rintro e w8 ⟨rfl, hb⟩; refine ⟨_, rfl, ?_⟩; replace BK356 := aM (blk_below (by have X_ := BK356.out; exact TX) hb); replace HB := aM (below_step TB hb); clear hb) | ((with_reducible refine gate_dst (N := 10) rfl ?_); refine Kd.R_lit (Kd.int .u8) _ 5 ?hg (N := 10) ?hd (xs := ([] : List Int)) (inner := []) (ok := fun _ => True) (okp := fun _ => True) ?hr ?hp (fun _ hk => hk) trivial (Below.refl _ _) (Nat.le_refl _) (by simp) ?_; (case hd => rfl); (case hg => rfl); (case hr => first | (go_simp; done) | (go_simp; rfl)); (case hp => exact (Reps.none _ _)); intro v362 w9 ho10 hb hg_ hnew_; clear hg_ hnew_; (first | rw [← Ny361.out] at ho10 | (simp only [Int.reduceToNat] at ho10; rw [← Ny361.out] at ho10)); have HO363 := aM (Kd.R_lower ho10 (below_size TB)); replace BK356 := aM (blk_below (by have X_ := BK356.out; exact TX) hb); replace HB := aM (below_step TB hb); clear hb ho10; obtain ⟨hcz11_0, hcz11_1, hcz11_2, hcz11_3, hcz11_4, hcz11_5, hcz11_6, hcz11_7, hcz11_8, hcz11_9⟩ := cz10 BK356.out; obtain ⟨hfz11_0, hfz11_1, hfz11_2, hfz11_3, hfz11_4, hfz11_5, hfz11_6, hfz11_7, hfz11_8, hfz11_9⟩ := fz10 BK356.out) | ((with_reducible refine gate_callee (f := 41) rfl ?_); (with_reducible refine gate_dst (N := 13) rfl ?_); generalize hG_ : wpList _ _ _ _ _ _ = G_))
    subst hG_
    by_cases c12 : a0_0 = 1
    · rw [if_pos c12] at H
      have c12b0 : (a0_0 == 1) = true := beq_iff_eq.mpr c12
      have c12b1 : (a0_0 != 1) = false := bne_eq_false_iff_eq.mpr c12
      clear c12
      replace H := bE H
      obtain ⟨t367, A13, H⟩ := H
      replace H := bE H
      obtain ⟨t370, A14, H⟩ := H
      replace H := bE H
      obtain ⟨t371, A15, H⟩ := H
      obtain rfl := Option.some.inj H
      obtain ⟨Ao16, co16, eo16⟩ := Kd.R_slice HO363.out
      subst eo16
      go_wp2_with (first | ((with_reducible refine gate_callee (f := 41) rfl ?_); refine gL (some 13) Try.func41 #[.slice Ao16 y361.length co16, .int .i64 a0_0] ?_; (with_reducible refine (spec_PutVar.calls k _ _ y361 a0_0 t364 _ ?side1 ?side2 A7.out).mono ?_); (case side1 => have X_ := (Kd.R_reads' HO363.out).2.2; exact TC); (case side2 => exact (Kd.R_reads' HO363.out).2.1); rintro e w17 ⟨v365, rfl, ho0, hb⟩; refine ⟨_, rfl, ?_⟩; have HO366 := aM (Kd.R_lower (Kd.R_new' ho0 (Kd.R_lt (by have X_ := HO363.out; exact TR))) (below_size TB)); replace HO363 := aM (Kd.R_elder' (by have X_ := HO363.out; exact TR) (Kd.R_base ho0) hb); replace BK356 := aM (blk_below (by have X_ := BK356.out; exact TX) hb); replace HB := aM (below_step TB hb); clear ho0 hb; obtain ⟨hcz18_0, hcz18_1, hcz18_2, hcz18_3, hcz18_4, hcz18_5, hcz18_6, hcz18_7, hcz18_8, hcz18_9⟩ := cz10 BK356.out; obtain ⟨hfz18_0, hfz18_1, hfz18_2, hfz18_3, hfz18_4, hfz18_5, hfz18_6, hfz18_7, hfz18_8, hfz18_9⟩ := fz10 BK356.out; obtain ⟨Ao19, co19, eo19⟩ := Kd.R_slice HO366.out; subst eo19) | ((with_reducible refine gate_callee (f := 42) rfl ?_); refine gL (some 25) Try.func42 #[.slice Ao19 t364.length co19, .agg #[.int .i64 a0_2, .int .i64 a0_3, .int .i64 a0_4, .slice A0_5 l0_5.length c0_5]] ?_; (with_reducible refine (spec_PutMan.calls k _ _ t364 a0_2 a0_3 a0_4 _ _ l0_5 t367 _ ?side1 ?side2 ?side3 ?side4 A13.out).mono ?_); (case side1 => have X_ := (Kd.R_reads' HO366.out).2.2; exact TC); (case side2 => exact (Kd.R_reads' HO366.out).2.1); (case side3 => have X_ := (Kd.C_below HR0_5.out HB.out); exact TC); (case side4 => exact HC0_5.out); rintro e w20 ⟨v368, rfl, ho0, hb⟩; refine ⟨_, rfl, ?_⟩; have HO369 := aM (Kd.R_lower (Kd.R_new' (Kd.R_new' ho0 (Kd.R_lt (by have X_ := HO363.out; exact TR))) (Kd.R_lt (by have X_ := HO366.out; exact TR))) (below_size TB)); replace HO363 := aM (Kd.R_elder' (by have X_ := HO363.out; exact TR) (Kd.R_base ho0) hb); replace HO366 := aM (Kd.R_elder' (by have X_ := HO366.out; exact TR) (Kd.R_base ho0) hb); replace BK356 := aM (blk_below (by have X_ := BK356.out; exact TX) hb); replace HB := aM (below_step TB hb); clear ho0 hb; obtain ⟨Ao21, co21, eo21⟩ := Kd.R_slice HO369.out; subst eo21) | ((with_reducible refine gate_callee (f := 45) rfl ?_); refine gL (some 67) Try.func45 #[.slice Ao21 t367.length co21] ?_; (with_reducible refine (spec_WeakOf.calls k _ _ t367 t370 _ ?side1 ?side2 A14.out).mono ?_); (case side1 => have X_ := (Kd.R_reads' HO369.out).2.2; exact TC); (case side2 => exact (Kd.R_reads' HO369.out).2.1); rintro e w' ⟨rfl, ⟨nd, rfl⟩⟩; refine ⟨_, rfl, ?_⟩) | ((with_reducible refine gate_callee (f := 41) rfl ?_); refine gL (some 68) Try.func41 #[.slice Ao21 t367.length co21, .int .i64 t370] ?_; (with_reducible refine (spec_PutVar.calls k _ _ t367 t370 t371 _ ?side1 ?side2 A15.out).mono ?_); (case side1 => have X_ := (Kd.R_reads' HO369.out).2.2; exact TC); (case side2 => exact (Kd.R_reads' HO369.out).2.1); rintro e w22 ⟨v372, rfl, ho0, hb⟩; refine ⟨_, rfl, ?_⟩; have HO373 := aM (Kd.R_lower (Kd.R_new' (Kd.R_new' (Kd.R_new' ho0 (Kd.R_lt (by have X_ := HO363.out; exact TR))) (Kd.R_lt (by have X_ := HO366.out; exact TR))) (Kd.R_lt (by have X_ := HO369.out; exact TR))) (below_size TB)); replace HO363 := aM (Kd.R_elder' (by have X_ := HO363.out; exact TR) (Kd.R_base ho0) hb); replace HO366 := aM (Kd.R_elder' (by have X_ := HO366.out; exact TR) (Kd.R_base ho0) hb); replace HO369 := aM (Kd.R_elder' (by have X_ := HO369.out; exact TR) (Kd.R_base ho0) hb); replace BK356 := aM (blk_below (by have X_ := BK356.out; exact TX) hb); replace HB := aM (below_step TB hb); clear ho0 hb))
      go_ret
      exact ⟨_, by first | rfl | (simp [errW_none, errW_some] <;> rfl) | (simp [*, errW_none, errW_some] <;> rfl), by (with_reducible repeat (first | apply Kd.R_alloc | apply Kd.R_drewN | apply Kd.R_drew)); exact Kd.R_mono HO373.out (fun _ hk => trivial), TB⟩
    · rw [if_neg c12] at H
      have c12b0 : (a0_0 == 1) = false := beq_eq_false_iff_ne.mpr c12
      have c12b1 : (a0_0 != 1) = true := bne_iff_ne.mpr c12
      by_cases c23 : a0_0 = 2
      · rw [if_pos c23] at H
        have c23b0 : (a0_0 == 2) = true := beq_iff_eq.mpr c23
        have c23b1 : (a0_0 != 2) = false := bne_eq_false_iff_eq.mpr c23
        clear c23
        replace H := bE H
        obtain ⟨⟨t374, t375⟩, A24, H⟩ := H
        dsimp only at H
        replace H := bE H
        obtain ⟨t376, A25, H⟩ := H
        replace H := bE H
        obtain ⟨t379, A26, H⟩ := H
        replace H := bE H
        obtain ⟨t382, A27, H⟩ := H
        replace H := bE H
        obtain ⟨⟨t385, t386⟩, A28, H⟩ := H
        dsimp only at H
        replace H := bE H
        obtain ⟨t387, A29, H⟩ := H
        replace H := bE H
        obtain ⟨t390, A30, H⟩ := H
        replace H := bE H
        obtain ⟨t393, A31, H⟩ := H
        replace H := bE H
        obtain ⟨t394, A32, H⟩ := H
        obtain rfl := Option.some.inj H
        obtain ⟨Ao33, co33, eo33⟩ := Kd.R_slice HO363.out
        subst eo33
        go_wp2_with (first | ((with_reducible refine gate_callee (f := 41) rfl ?_); refine gL (some 13) Try.func41 #[.slice Ao33 y361.length co33, .int .i64 a0_0] ?_; (with_reducible refine (spec_PutVar.calls k _ _ y361 a0_0 t364 _ ?side1 ?side2 A7.out).mono ?_); (case side1 => have X_ := (Kd.R_reads' HO363.out).2.2; exact TC); (case side2 => exact (Kd.R_reads' HO363.out).2.1); rintro e w34 ⟨v365, rfl, ho0, hb⟩; refine ⟨_, rfl, ?_⟩; have HO366 := aM (Kd.R_lower (Kd.R_new' ho0 (Kd.R_lt (by have X_ := HO363.out; exact TR))) (below_size TB)); replace HO363 := aM (Kd.R_elder' (by have X_ := HO363.out; exact TR) (Kd.R_base ho0) hb); replace BK356 := aM (blk_below (by have X_ := BK356.out; exact TX) hb); replace HB := aM (below_step TB hb); clear ho0 hb; obtain ⟨hcz35_0, hcz35_1, hcz35_2, hcz35_3, hcz35_4, hcz35_5, hcz35_6, hcz35_7, hcz35_8, hcz35_9⟩ := cz10 BK356.out; obtain ⟨hfz35_0, hfz35_1, hfz35_2, hfz35_3, hfz35_4, hfz35_5, hfz35_6, hfz35_7, hfz35_8, hfz35_9⟩ := fz10 BK356.out) | ((with_reducible refine gate_callee (f := 43) rfl ?_); refine gL (some 31) Try.func43 #[.int .i64 a0_6] ?_; (with_reducible refine (spec_l12Half.calls a0_6 t374 t375 _ A24.out).mono ?_); rintro e w' ⟨rfl, ⟨nd, rfl⟩⟩; refine ⟨_, rfl, ?_⟩; obtain ⟨Ao36, co36, eo36⟩ := Kd.R_slice HO366.out; subst eo36) | ((with_reducible refine gate_callee (f := 41) rfl ?_); refine gL (some 37) Try.func41 #[.slice Ao36 t364.length co36, .int .i64 a0_1] ?_; (with_reducible refine (spec_PutVar.calls k _ _ t364 a0_1 t376 _ ?side1 ?side2 A25.out).mono ?_); (case side1 => have X_ := (Kd.R_reads' HO366.out).2.2; exact TC); (case side2 => exact (Kd.R_reads' HO366.out).2.1); rintro e w37 ⟨v377, rfl, ho0, hb⟩; refine ⟨_, rfl, ?_⟩; have HO378 := aM (Kd.R_lower (Kd.R_new' (Kd.R_new' ho0 (Kd.R_lt (by have X_ := HO363.out; exact TR))) (Kd.R_lt (by have X_ := HO366.out; exact TR))) (below_size TB)); replace HO363 := aM (Kd.R_elder' (by have X_ := HO363.out; exact TR) (Kd.R_base ho0) hb); replace HO366 := aM (Kd.R_elder' (by have X_ := HO366.out; exact TR) (Kd.R_base ho0) hb); replace BK356 := aM (blk_below (by have X_ := BK356.out; exact TX) hb); replace HB := aM (below_step TB hb); clear ho0 hb; obtain ⟨Ao38, co38, eo38⟩ := Kd.R_slice HO378.out; subst eo38) | ((with_reducible refine gate_callee (f := 41) rfl ?_); refine gL (some 39) Try.func41 #[.slice Ao38 t376.length co38, .int .i64 t374] ?_; (with_reducible refine (spec_PutVar.calls k _ _ t376 t374 t379 _ ?side1 ?side2 A26.out).mono ?_); (case side1 => have X_ := (Kd.R_reads' HO378.out).2.2; exact TC); (case side2 => exact (Kd.R_reads' HO378.out).2.1); rintro e w39 ⟨v380, rfl, ho0, hb⟩; refine ⟨_, rfl, ?_⟩; have HO381 := aM (Kd.R_lower (Kd.R_new' (Kd.R_new' (Kd.R_new' ho0 (Kd.R_lt (by have X_ := HO363.out; exact TR))) (Kd.R_lt (by have X_ := HO366.out; exact TR))) (Kd.R_lt (by have X_ := HO378.out; exact TR))) (below_size TB)); replace HO363 := aM (Kd.R_elder' (by have X_ := HO363.out; exact TR) (Kd.R_base ho0) hb); replace HO366 := aM (Kd.R_elder' (by have X_ := HO366.out; exact TR) (Kd.R_base ho0) hb); replace HO378 := aM (Kd.R_elder' (by have X_ := HO378.out; exact TR) (Kd.R_base ho0) hb); replace BK356 := aM (blk_below (by have X_ := BK356.out; exact TX) hb); replace HB := aM (below_step TB hb); clear ho0 hb; obtain ⟨Ao40, co40, eo40⟩ := Kd.R_slice HO381.out; subst eo40) | ((with_reducible refine gate_callee (f := 41) rfl ?_); refine gL (some 41) Try.func41 #[.slice Ao40 t379.length co40, .int .i64 t375] ?_; (with_reducible refine (spec_PutVar.calls k _ _ t379 t375 t382 _ ?side1 ?side2 A27.out).mono ?_); (case side1 => have X_ := (Kd.R_reads' HO381.out).2.2; exact TC); (case side2 => exact (Kd.R_reads' HO381.out).2.1); rintro e w41 ⟨v383, rfl, ho0, hb⟩; refine ⟨_, rfl, ?_⟩; have HO384 := aM (Kd.R_lower (Kd.R_new' (Kd.R_new' (Kd.R_new' (Kd.R_new' ho0 (Kd.R_lt (by have X_ := HO363.out; exact TR))) (Kd.R_lt (by have X_ := HO366.out; exact TR))) (Kd.R_lt (by have X_ := HO378.out; exact TR))) (Kd.R_lt (by have X_ := HO381.out; exact TR))) (below_size TB)); replace HO363 := aM (Kd.R_elder' (by have X_ := HO363.out; exact TR) (Kd.R_base ho0) hb); replace HO366 := aM (Kd.R_elder' (by have X_ := HO366.out; exact TR) (Kd.R_base ho0) hb); replace HO378 := aM (Kd.R_elder' (by have X_ := HO378.out; exact TR) (Kd.R_base ho0) hb); replace HO381 := aM (Kd.R_elder' (by have X_ := HO381.out; exact TR) (Kd.R_base ho0) hb); replace BK356 := aM (blk_below (by have X_ := BK356.out; exact TX) hb); replace HB := aM (below_step TB hb); clear ho0 hb; obtain ⟨hcz42_0, hcz42_1, hcz42_2, hcz42_3, hcz42_4, hcz42_5, hcz42_6, hcz42_7, hcz42_8, hcz42_9⟩ := cz10 BK356.out; obtain ⟨hfz42_0, hfz42_1, hfz42_2, hfz42_3, hfz42_4, hfz42_5, hfz42_6, hfz42_7, hfz42_8, hfz42_9⟩ := fz10 BK356.out) | ((with_reducible refine gate_callee (f := 43) rfl ?_); refine gL (some 45) Try.func43 #[.int .i64 a0_7] ?_; (with_reducible refine (spec_l12Half.calls a0_7 t385 t386 _ A28.out).mono ?_); rintro e w' ⟨rfl, ⟨nd, rfl⟩⟩; refine ⟨_, rfl, ?_⟩; obtain ⟨Ao43, co43, eo43⟩ := Kd.R_slice HO384.out; subst eo43) | ((with_reducible refine gate_callee (f := 41) rfl ?_); refine gL (some 50) Try.func41 #[.slice Ao43 t382.length co43, .int .i64 t385] ?_; (with_reducible refine (spec_PutVar.calls k _ _ t382 t385 t387 _ ?side1 ?side2 A29.out).mono ?_); (case side1 => have X_ := (Kd.R_reads' HO384.out).2.2; exact TC); (case side2 => exact (Kd.R_reads' HO384.out).2.1); rintro e w44 ⟨v388, rfl, ho0, hb⟩; refine ⟨_, rfl, ?_⟩; have HO389 := aM (Kd.R_lower (Kd.R_new' (Kd.R_new' (Kd.R_new' (Kd.R_new' (Kd.R_new' ho0 (Kd.R_lt (by have X_ := HO363.out; exact TR))) (Kd.R_lt (by have X_ := HO366.out; exact TR))) (Kd.R_lt (by have X_ := HO378.out; exact TR))) (Kd.R_lt (by have X_ := HO381.out; exact TR))) (Kd.R_lt (by have X_ := HO384.out; exact TR))) (below_size TB)); replace HO363 := aM (Kd.R_elder' (by have X_ := HO363.out; exact TR) (Kd.R_base ho0) hb); replace HO366 := aM (Kd.R_elder' (by have X_ := HO366.out; exact TR) (Kd.R_base ho0) hb); replace HO378 := aM (Kd.R_elder' (by have X_ := HO378.out; exact TR) (Kd.R_base ho0) hb); replace HO381 := aM (Kd.R_elder' (by have X_ := HO381.out; exact TR) (Kd.R_base ho0) hb); replace HO384 := aM (Kd.R_elder' (by have X_ := HO384.out; exact TR) (Kd.R_base ho0) hb); replace BK356 := aM (blk_below (by have X_ := BK356.out; exact TX) hb); replace HB := aM (below_step TB hb); clear ho0 hb; obtain ⟨Ao45, co45, eo45⟩ := Kd.R_slice HO389.out; subst eo45) | ((with_reducible refine gate_callee (f := 41) rfl ?_); refine gL (some 52) Try.func41 #[.slice Ao45 t387.length co45, .int .i64 t386] ?_; (with_reducible refine (spec_PutVar.calls k _ _ t387 t386 t390 _ ?side1 ?side2 A30.out).mono ?_); (case side1 => have X_ := (Kd.R_reads' HO389.out).2.2; exact TC); (case side2 => exact (Kd.R_reads' HO389.out).2.1); rintro e w46 ⟨v391, rfl, ho0, hb⟩; refine ⟨_, rfl, ?_⟩; have HO392 := aM (Kd.R_lower (Kd.R_new' (Kd.R_new' (Kd.R_new' (Kd.R_new' (Kd.R_new' (Kd.R_new' ho0 (Kd.R_lt (by have X_ := HO363.out; exact TR))) (Kd.R_lt (by have X_ := HO366.out; exact TR))) (Kd.R_lt (by have X_ := HO378.out; exact TR))) (Kd.R_lt (by have X_ := HO381.out; exact TR))) (Kd.R_lt (by have X_ := HO384.out; exact TR))) (Kd.R_lt (by have X_ := HO389.out; exact TR))) (below_size TB)); replace HO363 := aM (Kd.R_elder' (by have X_ := HO363.out; exact TR) (Kd.R_base ho0) hb); replace HO366 := aM (Kd.R_elder' (by have X_ := HO366.out; exact TR) (Kd.R_base ho0) hb); replace HO378 := aM (Kd.R_elder' (by have X_ := HO378.out; exact TR) (Kd.R_base ho0) hb); replace HO381 := aM (Kd.R_elder' (by have X_ := HO381.out; exact TR) (Kd.R_base ho0) hb); replace HO384 := aM (Kd.R_elder' (by have X_ := HO384.out; exact TR) (Kd.R_base ho0) hb); replace HO389 := aM (Kd.R_elder' (by have X_ := HO389.out; exact TR) (Kd.R_base ho0) hb); replace BK356 := aM (blk_below (by have X_ := BK356.out; exact TX) hb); replace HB := aM (below_step TB hb); clear ho0 hb; obtain ⟨Ao47, co47, eo47⟩ := Kd.R_slice HO392.out; subst eo47) | ((with_reducible refine gate_callee (f := 45) rfl ?_); refine gL (some 67) Try.func45 #[.slice Ao47 t390.length co47] ?_; (with_reducible refine (spec_WeakOf.calls k _ _ t390 t393 _ ?side1 ?side2 A31.out).mono ?_); (case side1 => have X_ := (Kd.R_reads' HO392.out).2.2; exact TC); (case side2 => exact (Kd.R_reads' HO392.out).2.1); rintro e w' ⟨rfl, ⟨nd, rfl⟩⟩; refine ⟨_, rfl, ?_⟩) | ((with_reducible refine gate_callee (f := 41) rfl ?_); refine gL (some 68) Try.func41 #[.slice Ao47 t390.length co47, .int .i64 t393] ?_; (with_reducible refine (spec_PutVar.calls k _ _ t390 t393 t394 _ ?side1 ?side2 A32.out).mono ?_); (case side1 => have X_ := (Kd.R_reads' HO392.out).2.2; exact TC); (case side2 => exact (Kd.R_reads' HO392.out).2.1); rintro e w48 ⟨v395, rfl, ho0, hb⟩; refine ⟨_, rfl, ?_⟩; have HO396 := aM (Kd.R_lower (Kd.R_new' (Kd.R_new' (Kd.R_new' (Kd.R_new' (Kd.R_new' (Kd.R_new' (Kd.R_new' ho0 (Kd.R_lt (by have X_ := HO363.out; exact TR))) (Kd.R_lt (by have X_ := HO366.out; exact TR))) (Kd.R_lt (by have X_ := HO378.out; exact TR))) (Kd.R_lt (by have X_ := HO381.out; exact TR))) (Kd.R_lt (by have X_ := HO384.out; exact TR))) (Kd.R_lt (by have X_ := HO389.out; exact TR))) (Kd.R_lt (by have X_ := HO392.out; exact TR))) (below_size TB)); replace HO363 := aM (Kd.R_elder' (by have X_ := HO363.out; exact TR) (Kd.R_base ho0) hb); replace HO366 := aM (Kd.R_elder' (by have X_ := HO366.out; exact TR) (Kd.R_base ho0) hb); replace HO378 := aM (Kd.R_elder' (by have X_ := HO378.out; exact TR) (Kd.R_base ho0) hb); replace HO381 := aM (Kd.R_elder' (by have X_ := HO381.out; exact TR) (Kd.R_base ho0) hb); replace HO384 := aM (Kd.R_elder' (by have X_ := HO384.out; exact TR) (Kd.R_base ho0) hb); replace HO389 := aM (Kd.R_elder' (by have X_ := HO389.out; exact TR) (Kd.R_base ho0) hb); replace HO392 := aM (Kd.R_elder' (by have X_ := HO392.out; exact TR) (Kd.R_base ho0) hb); replace BK356 := aM (blk_below (by have X_ := BK356.out; exact TX) hb); replace HB := aM (below_step TB hb); clear ho0 hb))
        go_ret
        exact ⟨_, by first | rfl | (simp [errW_none, errW_some] <;> rfl) | (simp [*, errW_none, errW_some] <;> rfl), by (with_reducible repeat (first | apply Kd.R_alloc | apply Kd.R_drewN | apply Kd.R_drew)); exact Kd.R_mono HO396.out (fun _ hk => trivial), TB⟩
      · rw [if_neg c23] at H
        have c23b0 : (a0_0 == 2) = false := beq_eq_false_iff_ne.mpr c23
        have c23b1 : (a0_0 != 2) = true := bne_iff_ne.mpr c23
        by_cases c49 : a0_0 = 3
        · rw [if_pos c49] at H
          have c49b0 : (a0_0 == 3) = true := beq_iff_eq.mpr c49
          have c49b1 : (a0_0 != 3) = false := bne_eq_false_iff_eq.mpr c49
          clear c49
          replace H := bE H
          obtain ⟨t397, A50, H⟩ := H
          replace H := bE H
          obtain ⟨t400, A51, H⟩ := H
          replace H := bE H
          obtain ⟨t403, A52, H⟩ := H
          replace H := bE H
          obtain ⟨t406, A53, H⟩ := H
          replace H := bE H
          obtain ⟨t407, A54, H⟩ := H
          obtain rfl := Option.some.inj H
          obtain ⟨Ao55, co55, eo55⟩ := Kd.R_slice HO363.out
          subst eo55
          try go_wp2_with (first | ((with_reducible refine gate_callee (f := 41) rfl ?_); refine gL (some 13) Try.func41 #[.slice Ao55 y361.length co55, .int .i64 a0_0] ?_; (with_reducible refine (spec_PutVar.calls k _ _ y361 a0_0 t364 _ ?side1 ?side2 A7.out).mono ?_); (case side1 => have X_ := (Kd.R_reads' HO363.out).2.2; exact TC); (case side2 => exact (Kd.R_reads' HO363.out).2.1); rintro e w56 ⟨v365, rfl, ho0, hb⟩; refine ⟨_, rfl, ?_⟩; have HO366 := aM (Kd.R_lower (Kd.R_new' ho0 (Kd.R_lt (by have X_ := HO363.out; exact TR))) (below_size TB)); replace HO363 := aM (Kd.R_elder' (by have X_ := HO363.out; exact TR) (Kd.R_base ho0) hb); replace BK356 := aM (blk_below (by have X_ := BK356.out; exact TX) hb); replace HB := aM (below_step TB hb); clear ho0 hb; obtain ⟨hcz57_0, hcz57_1, hcz57_2, hcz57_3, hcz57_4, hcz57_5, hcz57_6, hcz57_7, hcz57_8, hcz57_9⟩ := cz10 BK356.out; obtain ⟨hfz57_0, hfz57_1, hfz57_2, hfz57_3, hfz57_4, hfz57_5, hfz57_6, hfz57_7, hfz57_8, hfz57_9⟩ := fz10 BK356.out))
          replace HO363 := aM (Kd.R_drew HO363.out)
          replace HO366 := aM (Kd.R_drew HO366.out)
          replace BK356 := aM (blk_drew BK356.out)
          replace HB := aM (below_drew1 HB.out)
          obtain ⟨Ao59, co59, eo59⟩ := Kd.R_slice HO366.out
          (first | subst eo59 | (injection eo59 with f1_ f2_ f3_; have f4_ := f1_.symm; have f5_ := f3_.symm; clear f1_ f2_ f3_; subst f4_; subst f5_))
          refine start_ (n := 11) (S := fun w' => w'.cell? ⟨gb356, 0, none⟩ = some (.int .i64 a0_0) ∧ w'.cell? ⟨gb356, 1, none⟩ = some (.int .i64 a0_1) ∧ w'.cell? ⟨gb356, 2, none⟩ = some (.int .i64 a0_2) ∧ w'.cell? ⟨gb356, 3, none⟩ = some (.int .i64 a0_3) ∧ w'.cell? ⟨gb356, 4, none⟩ = some (.int .i64 a0_4) ∧ w'.cell? ⟨gb356, 5, none⟩ = some (.slice A0_5 l0_5.length c0_5) ∧ w'.cell? ⟨gb356, 6, none⟩ = some (.int .i64 a0_6) ∧ w'.cell? ⟨gb356, 7, none⟩ = some (.int .i64 a0_7) ∧ w'.cell? ⟨gb356, 8, none⟩ = some (.int .i64 a0_8) ∧ w'.cell? ⟨gb356, 9, none⟩ = some (.slice A0_9 l0_9.length c0_9)) (ds := []) (Array.replicate 11 false) (by kernel_rfl) rfl rfl (cz10 BK356.out) (fun hHeld => ?_); refine with_tabW spec_PutMsg.tab14 spec_PutMsg.bits14 (fun HT_ HW_ => ?_)
          generalize w56.drew = w58 at HO363 HO366 BK356 HB hHeld ⊢
          refine pP 0 (some 55) ?_
          refine pP 1 (some 56) ?_
          refine pP 4 (some 59) ?_
          refine pP 7 (some 62) ?_
          refine pT 2 (some 57) ?_
          refine pT 5 (some 60) ?_
          refine pT 8 (some 63) ?_
          refine pO 3 (some 58) (fun K hK => ?_)
          refine gG Try.func41 #[.slice Ao59 t364.length co59, .int .i64 a0_1] ?_
          with_reducible refine (spec_PutVar.calls k _ _ t364 a0_1 t397 _ ?side1 ?side2 A50.out).mono ?_
          (case side1 => have X_ := (Kd.R_reads' HO366.out).2.2; exact TC)
          (case side2 => exact (Kd.R_reads' HO366.out).2.1)
          rintro e w60 ⟨v398, rfl, ho0, hb⟩
          refine ⟨_, rfl, ?_⟩
          have n0_ := aM (Kd.R_elder' (by have X_ := HO363.out; exact TR) (Kd.R_base ho0) hb)
          have n1_ := aM (Kd.R_elder' (by have X_ := HO366.out; exact TR) (Kd.R_base ho0) hb)
          have n2_ := aM (Kd.R_lower (Kd.R_new' (Kd.R_new' ho0 (Kd.R_lt (by have X_ := HO363.out; exact TR))) (Kd.R_lt (by have X_ := HO366.out; exact TR))) (below_size TB))
          have n3_ := aM (blk_below (by have X_ := BK356.out; exact TX) hb)
          have n4_ := aM (below_step TB hb)
          clear HO363
          clear HO366
          clear BK356
          clear HB
          have HO363 := n0_
          have HO366 := n1_
          have HO399 := n2_
          have BK356 := n3_
          have HB := n4_
          clear n0_ n1_ n2_ n3_ n4_
          (try clear hb)
          (try clear hb2)
          (try clear hk)
          (try clear hi)
          (try clear ho0)
          obtain ⟨Ao61, co61, eo61⟩ := Kd.R_slice HO399.out
          (first | subst eo61 | (injection eo61 with f1_ f2_ f3_; have f4_ := f1_.symm; have f5_ := f3_.symm; clear f1_ f2_ f3_; subst f4_; subst f5_))
          refine hK.out _ _ (cz10 BK356.out) (fun hHeld => ?_)
          clear hK K
          refine nR ?_
          refine pO 6 (some 61) (fun K hK => ?_)
          refine gG Try.func41 #[.slice Ao61 t397.length co61, .int .i64 a0_8] ?_
          with_reducible refine (spec_PutVar.calls k _ _ t397 a0_8 t400 _ ?side1 ?side2 A51.out).mono ?_
          (case side1 => have X_ := (Kd.R_reads' HO399.out).2.2; exact TC)
          (case side2 => exact (Kd.R_reads' HO399.out).2.1)
          rintro e w62 ⟨v401, rfl, ho0, hb⟩
          refine ⟨_, rfl, ?_⟩
          have n0_ := aM (Kd.R_elder' (by have X_ := HO363.out; exact TR) (Kd.R_base ho0) hb)
          have n1_ := aM (Kd.R_elder' (by have X_ := HO366.out; exact TR) (Kd.R_base ho0) hb)
          have n2_ := aM (Kd.R_elder' (by have X_ := HO399.out; exact TR) (Kd.R_base ho0) hb)
          have n3_ := aM (Kd.R_lower (Kd.R_new' (Kd.R_new' (Kd.R_new' ho0 (Kd.R_lt (by have X_ := HO363.out; exact TR))) (Kd.R_lt (by have X_ := HO366.out; exact TR))) (Kd.R_lt (by have X_ := HO399.out; exact TR))) (below_size TB))
          have n4_ := aM (blk_below (by have X_ := BK356.out; exact TX) hb)
          have n5_ := aM (below_step TB hb)
          clear HO363
          clear HO366
          clear HO399
          clear BK356
          clear HB
          have HO363 := n0_
          have HO366 := n1_
          have HO399 := n2_
          have HO402 := n3_
          have BK356 := n4_
          have HB := n5_
          clear n0_ n1_ n2_ n3_ n4_ n5_
          (try clear hb)
          (try clear hb2)
          (try clear hk)
          (try clear hi)
          (try clear ho0)
          obtain ⟨Ao63, co63, eo63⟩ := Kd.R_slice HO402.out
          (first | subst eo63 | (injection eo63 with f1_ f2_ f3_; have f4_ := f1_.symm; have f5_ := f3_.symm; clear f1_ f2_ f3_; subst f4_; subst f5_))
          refine hK.out _ _ (cz10 BK356.out) (fun hHeld => ?_)
          clear hK K
          refine nR ?_
          refine pO 9 (some 64) (fun K hK => ?_)
          refine gG Try.func44 #[.slice Ao63 t400.length co63, .slice A0_9 l0_9.length c0_9] ?_
          with_reducible refine (spec_PutPart.calls k _ _ t400 _ _ l0_9 t403 _ ?side1 ?side2 ?side3 ?side4 A52.out).mono ?_
          (case side1 => have X_ := (Kd.R_reads' HO402.out).2.2; exact TC)
          (case side2 => exact (Kd.R_reads' HO402.out).2.1)
          (case side3 => have X_ := (Kd.C_below HR0_9.out HB.out); exact TC)
          (case side4 => exact HC0_9.out)
          rintro e w64 ⟨v404, rfl, ho0, hb⟩
          refine ⟨_, rfl, ?_⟩
          have n0_ := aM (Kd.R_elder' (by have X_ := HO363.out; exact TR) (Kd.R_base ho0) hb)
          have n1_ := aM (Kd.R_elder' (by have X_ := HO366.out; exact TR) (Kd.R_base ho0) hb)
          have n2_ := aM (Kd.R_elder' (by have X_ := HO399.out; exact TR) (Kd.R_base ho0) hb)
          have n3_ := aM (Kd.R_elder' (by have X_ := HO402.out; exact TR) (Kd.R_base ho0) hb)
          have n4_ := aM (Kd.R_lower (Kd.R_new' (Kd.R_new' (Kd.R_new' (Kd.R_new' ho0 (Kd.R_lt (by have X_ := HO363.out; exact TR))) (Kd.R_lt (by have X_ := HO366.out; exact TR))) (Kd.R_lt (by have X_ := HO399.out; exact TR))) (Kd.R_lt (by have X_ := HO402.out; exact TR))) (below_size TB))
          have n5_ := aM (blk_below (by have X_ := BK356.out; exact TX) hb)
          have n6_ := aM (below_step TB hb)
          clear HO363
          clear HO366
          clear HO399
          clear HO402
          clear BK356
          clear HB
          have HO363 := n0_
          have HO366 := n1_
          have HO399 := n2_
          have HO402 := n3_
          have HO405 := n4_
          have BK356 := n5_
          have HB := n6_
          clear n0_ n1_ n2_ n3_ n4_ n5_ n6_
          (try clear hb)
          (try clear hb2)
          (try clear hk)
          (try clear hi)
          (try clear ho0)
          refine hK.out _ _ (cz10 BK356.out) (fun hHeld => ?_)
          clear hK K
          refine nR ?_
          refine pP 10 (some 3) ?_
          refine done_ (done_of HT_.out (by kernel_rfl)) ?_
          obtain ⟨Ao65, co65, eo65⟩ := Kd.R_slice HO405.out
          subst eo65
          try go_wp2_with (first | ((with_reducible refine gate_callee (f := 45) rfl ?_); refine gL (some 67) Try.func45 #[.slice Ao65 t403.length co65] ?_; (with_reducible refine (spec_WeakOf.calls k _ _ t403 t406 _ ?side1 ?side2 A53.out).mono ?_); (case side1 => have X_ := (Kd.R_reads' HO405.out).2.2; exact TC); (case side2 => exact (Kd.R_reads' HO405.out).2.1); rintro e w' ⟨rfl, ⟨nd, rfl⟩⟩; refine ⟨_, rfl, ?_⟩) | ((with_reducible refine gate_callee (f := 41) rfl ?_); refine gL (some 68) Try.func41 #[.slice Ao65 t403.length co65, .int .i64 t406] ?_; (with_reducible refine (spec_PutVar.calls k _ _ t403 t406 t407 _ ?side1 ?side2 A54.out).mono ?_); (case side1 => have X_ := (Kd.R_reads' HO405.out).2.2; exact TC); (case side2 => exact (Kd.R_reads' HO405.out).2.1); rintro e w66 ⟨v408, rfl, ho0, hb⟩; refine ⟨_, rfl, ?_⟩; have HO409 := aM (Kd.R_lower (Kd.R_new' (Kd.R_new' (Kd.R_new' (Kd.R_new' (Kd.R_new' ho0 (Kd.R_lt (by have X_ := HO363.out; exact TR))) (Kd.R_lt (by have X_ := HO366.out; exact TR))) (Kd.R_lt (by have X_ := HO399.out; exact TR))) (Kd.R_lt (by have X_ := HO402.out; exact TR))) (Kd.R_lt (by have X_ := HO405.out; exact TR))) (below_size TB)); replace HO363 := aM (Kd.R_elder' (by have X_ := HO363.out; exact TR) (Kd.R_base ho0) hb); replace HO366 := aM (Kd.R_elder' (by have X_ := HO366.out; exact TR) (Kd.R_base ho0) hb); replace HO399 := aM (Kd.R_elder' (by have X_ := HO399.out; exact TR) (Kd.R_base ho0) hb); replace HO402 := aM (Kd.R_elder' (by have X_ := HO402.out; exact TR) (Kd.R_base ho0) hb); replace HO405 := aM (Kd.R_elder' (by have X_ := HO405.out; exact TR) (Kd.R_base ho0) hb); replace BK356 := aM (blk_below (by have X_ := BK356.out; exact TX) hb); replace HB := aM (below_step TB hb); clear ho0 hb))
          go_ret
          exact ⟨_, by first | rfl | (simp [errW_none, errW_some] <;> rfl) | (simp [*, errW_none, errW_some] <;> rfl), by (with_reducible repeat (first | apply Kd.R_alloc | apply Kd.R_drewN | apply Kd.R_drew)); exact Kd.R_mono HO409.out (fun _ hk => trivial), TB⟩
        · rw [if_neg c49] at H
          have c49b0 : (a0_0 == 3) = false := beq_eq_false_iff_ne.mpr c49
          have c49b1 : (a0_0 != 3) = true := bne_iff_ne.mpr c49
          replace H := bE H
          obtain ⟨t410, A67, H⟩ := H
          replace H := bE H
          obtain ⟨t413, A68, H⟩ := H
          replace H := bE H
          obtain ⟨t414, A69, H⟩ := H
          obtain rfl := Option.some.inj H
          obtain ⟨Ao70, co70, eo70⟩ := Kd.R_slice HO363.out
          subst eo70
          go_wp2_with (first | ((with_reducible refine gate_callee (f := 41) rfl ?_); refine gL (some 13) Try.func41 #[.slice Ao70 y361.length co70, .int .i64 a0_0] ?_; (with_reducible refine (spec_PutVar.calls k _ _ y361 a0_0 t364 _ ?side1 ?side2 A7.out).mono ?_); (case side1 => have X_ := (Kd.R_reads' HO363.out).2.2; exact TC); (case side2 => exact (Kd.R_reads' HO363.out).2.1); rintro e w71 ⟨v365, rfl, ho0, hb⟩; refine ⟨_, rfl, ?_⟩; have HO366 := aM (Kd.R_lower (Kd.R_new' ho0 (Kd.R_lt (by have X_ := HO363.out; exact TR))) (below_size TB)); replace HO363 := aM (Kd.R_elder' (by have X_ := HO363.out; exact TR) (Kd.R_base ho0) hb); replace BK356 := aM (blk_below (by have X_ := BK356.out; exact TX) hb); replace HB := aM (below_step TB hb); clear ho0 hb; obtain ⟨hcz72_0, hcz72_1, hcz72_2, hcz72_3, hcz72_4, hcz72_5, hcz72_6, hcz72_7, hcz72_8, hcz72_9⟩ := cz10 BK356.out; obtain ⟨hfz72_0, hfz72_1, hfz72_2, hfz72_3, hfz72_4, hfz72_5, hfz72_6, hfz72_7, hfz72_8, hfz72_9⟩ := fz10 BK356.out; obtain ⟨Ao73, co73, eo73⟩ := Kd.R_slice HO366.out; subst eo73) | ((with_reducible refine gate_callee (f := 41) rfl ?_); refine gL (some 19) Try.func41 #[.slice Ao73 t364.length co73, .int .i64 a0_1] ?_; (with_reducible refine (spec_PutVar.calls k _ _ t364 a0_1 t410 _ ?side1 ?side2 A67.out).mono ?_); (case side1 => have X_ := (Kd.R_reads' HO366.out).2.2; exact TC); (case side2 => exact (Kd.R_reads' HO366.out).2.1); rintro e w74 ⟨v411, rfl, ho0, hb⟩; refine ⟨_, rfl, ?_⟩; have HO412 := aM (Kd.R_lower (Kd.R_new' (Kd.R_new' ho0 (Kd.R_lt (by have X_ := HO363.out; exact TR))) (Kd.R_lt (by have X_ := HO366.out; exact TR))) (below_size TB)); replace HO363 := aM (Kd.R_elder' (by have X_ := HO363.out; exact TR) (Kd.R_base ho0) hb); replace HO366 := aM (Kd.R_elder' (by have X_ := HO366.out; exact TR) (Kd.R_base ho0) hb); replace BK356 := aM (blk_below (by have X_ := BK356.out; exact TX) hb); replace HB := aM (below_step TB hb); clear ho0 hb; obtain ⟨Ao75, co75, eo75⟩ := Kd.R_slice HO412.out; subst eo75) | ((with_reducible refine gate_callee (f := 45) rfl ?_); refine gL (some 67) Try.func45 #[.slice Ao75 t410.length co75] ?_; (with_reducible refine (spec_WeakOf.calls k _ _ t410 t413 _ ?side1 ?side2 A68.out).mono ?_); (case side1 => have X_ := (Kd.R_reads' HO412.out).2.2; exact TC); (case side2 => exact (Kd.R_reads' HO412.out).2.1); rintro e w' ⟨rfl, ⟨nd, rfl⟩⟩; refine ⟨_, rfl, ?_⟩) | ((with_reducible refine gate_callee (f := 41) rfl ?_); refine gL (some 68) Try.func41 #[.slice Ao75 t410.length co75, .int .i64 t413] ?_; (with_reducible refine (spec_PutVar.calls k _ _ t410 t413 t414 _ ?side1 ?side2 A69.out).mono ?_); (case side1 => have X_ := (Kd.R_reads' HO412.out).2.2; exact TC); (case side2 => exact (Kd.R_reads' HO412.out).2.1); rintro e w76 ⟨v415, rfl, ho0, hb⟩; refine ⟨_, rfl, ?_⟩; have HO416 := aM (Kd.R_lower (Kd.R_new' (Kd.R_new' (Kd.R_new' ho0 (Kd.R_lt (by have X_ := HO363.out; exact TR))) (Kd.R_lt (by have X_ := HO366.out; exact TR))) (Kd.R_lt (by have X_ := HO412.out; exact TR))) (below_size TB)); replace HO363 := aM (Kd.R_elder' (by have X_ := HO363.out; exact TR) (Kd.R_base ho0) hb); replace HO366 := aM (Kd.R_elder' (by have X_ := HO366.out; exact TR) (Kd.R_base ho0) hb); replace HO412 := aM (Kd.R_elder' (by have X_ := HO412.out; exact TR) (Kd.R_base ho0) hb); replace BK356 := aM (blk_below (by have X_ := BK356.out; exact TX) hb); replace HB := aM (below_step TB hb); clear ho0 hb))
          go_ret
          exact ⟨_, by first | rfl | (simp [errW_none, errW_some] <;> rfl) | (simp [*, errW_none, errW_some] <;> rfl), by (with_reducible repeat (first | apply Kd.R_alloc | apply Kd.R_drewN | apply Kd.R_drew)); exact Kd.R_mono HO416.out (fun _ hk => trivial), TB⟩
  · replace c6 := Bool.eq_false_iff.mpr c6
    subst c6
    replace H := ifF H
    obtain ⟨y358, hy358⟩ : ∃ y_ : List Int, y_ = (([] : List Int)) := ⟨_, rfl⟩
    rw [← hy358] at H
    have Ny358 := aM hy358
    clear hy358
    obtain rfl := Option.some.inj H
    go_wp2_with (first | ((with_reducible refine gate_callee (f := 8) rfl ?_); refine gL (some 7) Try.func8 #[.agg #[.int .i64 a0_0, .int .i64 a0_1, .int .i64 a0_2, .int .i64 a0_3, .int .i64 a0_4, .slice A0_5 l0_5.length c0_5, .int .i64 a0_6, .int .i64 a0_7, .int .i64 a0_8, .slice A0_9 l0_9.length c0_9]] ?_; (with_reducible refine (spec_MsgOk.calls k a0_0 a0_1 a0_2 a0_3 a0_4 _ _ l0_5 a0_6 a0_7 a0_8 _ _ l0_9 false _ ?side1 ?side2 ?side3 ?side4 A2.out).mono ?_); (case side1 => repeat (first | exact (Kd.C_below HR0_5.out TB) | (with_reducible refine Kd.C_alloc ?_ _) | (with_reducible refine Kd.C_drewN ?_ _) | (with_reducible refine Kd.C_drew ?_))); (case side2 => exact HC0_5.out); (case side3 => repeat (first | exact (Kd.C_below HR0_9.out TB) | (with_reducible refine Kd.C_alloc ?_ _) | (with_reducible refine Kd.C_drewN ?_ _) | (with_reducible refine Kd.C_drew ?_))); (case side4 => exact HC0_9.out); rintro e w77 ⟨rfl, hb⟩; refine ⟨_, rfl, ?_⟩; replace BK356 := aM (blk_below (by have X_ := BK356.out; exact TX) hb); replace HB := aM (below_step TB hb); clear hb) | ((with_reducible refine gate_dst (N := 9) rfl ?_); refine Kd.R_lit (Kd.int .u8) _ 5 ?hg (N := 9) ?hd (xs := ([] : List Int)) (inner := []) (ok := fun _ => True) (okp := fun _ => True) ?hr ?hp (fun _ hk => hk) trivial (Below.refl _ _) (Nat.le_refl _) (by simp) ?_; (case hd => rfl); (case hg => rfl); (case hr => first | (go_simp; done) | (go_simp; rfl)); (case hp => exact (Reps.none _ _)); intro v359 w78 ho79 hb hg_ hnew_; clear hg_ hnew_; (first | rw [← Ny358.out] at ho79 | (simp only [Int.reduceToNat] at ho79; rw [← Ny358.out] at ho79)); have HO360 := aM (Kd.R_lower ho79 (below_size TB)); replace BK356 := aM (blk_below (by have X_ := BK356.out; exact TX) hb); replace HB := aM (below_step TB hb); clear hb ho79))
    go_ret
    exact ⟨_, by first | rfl | (simp [errW_none, errW_some] <;> rfl) | (simp [*, errW_none, errW_some] <;> rfl), by have X_ := HO360.out; exact TR, TB⟩

end Go.Proofs.Ytdohjkbgbplgmaa.Q
