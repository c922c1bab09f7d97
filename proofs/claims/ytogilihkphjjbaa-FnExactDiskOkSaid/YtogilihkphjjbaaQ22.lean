/- Functions of the program as plain Lean functions, and that a call of each comes to what its function tells. Written by a program of this seat. -/
import Derived.Test.YtogilihkphjjbaaQ0
import Derived.Test.YtogilihkphjjbaaQ2
import Derived.Test.YtogilihkphjjbaaQ6
import Derived.Test.YtogilihkphjjbaaQ7
import Derived.Test.YtogilihkphjjbaaQ19
import Derived.Test.YtogilihkphjjbaaQ21
namespace Go.Proofs.Ytogilihkphjjbaa.Q
open Go.RowKit Go.Proofs.YtogilihkphjjbaaW.PrintWords Go.Proofs.YtogilihkphjjbaaW.PrintLast Go.Proofs.YtogilihkphjjbaaW.PrintMore
attribute [local go_sem] max2_int min2_int max_two min_two max_three min_three max_four min_four   -- for this text's walks alone
set_option linter.unusedVariables false
set_option linter.unusedSimpArgs false

/-! ### laws_FnExactDiskOk: function 5 -/
def laws_FnExactDiskOk.f (k : Nat) (l0_0 : List Int) (l0_1 : List Int) (a0_2 : Int) (a0_3 : Int) (a0_4 : Int) (l0_5 : List (S51)) : Option (Bool) := (laws_szDisk.f k l0_0 l0_1 a0_2 a0_3 a0_4 l0_5 1048576).bind fun t318 => (if t318 < 0 then (some true) else ((laws_toDisk.f k l0_0 l0_1 a0_2 a0_3 a0_4 l0_5).bind fun bt319 => ((spec_DiskOk.f k bt319.1 bt319.2.1 bt319.2.2.1 bt319.2.2.2.1 bt319.2.2.2.2.1 bt319.2.2.2.2.2).bind fun t331 => ((laws_toDisk.f k l0_0 l0_1 a0_2 a0_3 a0_4 l0_5).bind fun bt332 => ((impl_DiskOk.f k bt332.1 bt332.2.1 bt332.2.2.1 bt332.2.2.2.1 bt332.2.2.2.2.1 bt332.2.2.2.2.2).bind fun t345 => (if (t345 != t331) = true then (none) else ((laws_toDisk.f k l0_0 l0_1 a0_2 a0_3 a0_4 l0_5).bind fun bt346 => ((laws_eqDisk.f k bt332.1 bt332.2.1 bt332.2.2.1 bt332.2.2.2.1 bt332.2.2.2.2.1 bt332.2.2.2.2.2 bt346.1 bt346.2.1 bt346.2.2.1 bt346.2.2.2.1 bt346.2.2.2.2.1 bt346.2.2.2.2.2).bind fun t358 => (if t358 = true then (some true) else (none))))))))))
theorem laws_FnExactDiskOk.mono : ∀ a0 a1 a2 a3 a4 a5 k, LeO (laws_FnExactDiskOk.f k a0 a1 a2 a3 a4 a5) (laws_FnExactDiskOk.f (k + 1) a0 a1 a2 a3 a4 a5) := by
  intro a0 a1 a2 a3 a4 a5 k
  have m0_ := @impl_DiskOk.mono
  have m1_ := @laws_eqDisk.mono
  have m2_ := @laws_szDisk.mono
  have m3_ := @laws_toDisk.mono
  have m4_ := @spec_DiskOk.mono
  unfold laws_FnExactDiskOk.f
  exact LM
set_option maxHeartbeats 40000000 in
set_option maxRecDepth 100000 in
theorem laws_FnExactDiskOk.calls (k : Nat) (A0_0 : Option Addr) (c0_0 : Nat) (l0_0 : List Int) (A0_1 : Option Addr) (c0_1 : Nat) (l0_1 : List Int) (a0_2 : Int) (a0_3 : Int) (a0_4 : Int) (A0_5 : Option Addr) (c0_5 : Nat) (l0_5 : List (S51)) (r : Bool) (w : World) (hr0_0 : Kd.C (Kd.int .u8) w A0_0 l0_0.length l0_0) (hc0_0 : l0_0.length ≤ c0_0) (hr0_1 : Kd.C (Kd.int .u8) w A0_1 l0_1.length l0_1) (hc0_1 : l0_1.length ≤ c0_1) (hr0_5 : Kd.C k51 w A0_5 l0_5.length l0_5) (hc0_5 : l0_5.length ≤ c0_5) (h : laws_FnExactDiskOk.f k l0_0 l0_1 a0_2 a0_3 a0_4 l0_5 = some r) :
    Calls Try.prog 5 #[.agg #[.slice A0_0 l0_0.length c0_0, .slice A0_1 l0_1.length c0_1, .int .i64 a0_2, .int .i64 a0_3, .int .i64 a0_4, .slice A0_5 l0_5.length c0_5]] w fun e w' => e = .returned (.bool r) ∧ Below w.heap.size w w' := by
  have hu27 := Try.underlying27
  have hu33 := Try.underlying33
  have HR0_0 := aM hr0_0
  have HC0_0 := aM hc0_0
  clear hr0_0 hc0_0
  have HR0_1 := aM hr0_1
  have HC0_1 := aM hc0_1
  clear hr0_1 hc0_1
  have HR0_5 := aM hr0_5
  have HC0_5 := aM hc0_5
  clear hr0_5 hc0_5
  have HB := aM (Below.refl w.heap.size w)
  have H := h
  clear h
  unfold laws_FnExactDiskOk.f at H
  replace H := bE H
  obtain ⟨t318, A2, H⟩ := H
  go_enter Try.func5, Try.ntmps5
  go_wp2_with (first | ((with_reducible refine gate_dst (N := 1) rfl ?_); refine gBx 1 #[.slice A0_0 l0_0.length c0_0, .slice A0_1 l0_1.length c0_1, .int .i64 a0_2, .int .i64 a0_3, .int .i64 a0_4, .slice A0_5 l0_5.length c0_5] 27 ?_; intro gb317 hg w3 hbox hb; have BK317 := aM (hbox); have GW317 := aM ((by rw [hg]; exact (below_size TB) : w.heap.size ≤ gb317)); have GE317 := aM ((by rw [hg]; exact (below_size TB) : w.heap.size ≤ gb317)); replace HB := aM (below_step TB hb); clear hb hbox hg; obtain ⟨hcz4_0, hcz4_1, hcz4_2, hcz4_3, hcz4_4, hcz4_5⟩ := cz6 BK317.out; obtain ⟨hfz4_0, hfz4_1, hfz4_2, hfz4_3, hfz4_4, hfz4_5⟩ := fz6 BK317.out) | ((with_reducible refine gate_callee (f := 15) rfl ?_); (with_reducible refine gate_dst (N := 9) rfl ?_); generalize hG_ : wpList _ _ _ _ _ _ = G_))
  subst hG_
  by_cases c5 : t318 < 0
  · rw [if_pos c5] at H
    have c5b0 : decide (t318 < 0) = true := decide_eq_true c5
    clear c5
    obtain rfl := Option.some.inj H
    go_wp2_with (first | ((with_reducible refine gate_callee (f := 15) rfl ?_); refine gL (some 9) Try.func15 #[.agg #[.slice A0_0 l0_0.length c0_0, .slice A0_1 l0_1.length c0_1, .int .i64 a0_2, .int .i64 a0_3, .int .i64 a0_4, .slice A0_5 l0_5.length c0_5], .int .i64 1048576] ?_; (with_reducible refine (laws_szDisk.calls k _ _ l0_0 _ _ l0_1 a0_2 a0_3 a0_4 _ _ l0_5 1048576 t318 _ ?side1 ?side2 ?side3 ?side4 ?side5 ?side6 A2.out).mono ?_); (case side1 => repeat (first | exact (Kd.C_below HR0_0.out TB) | (with_reducible refine Kd.C_alloc ?_ _) | (with_reducible refine Kd.C_drewN ?_ _) | (with_reducible refine Kd.C_drew ?_))); (case side2 => exact HC0_0.out); (case side3 => repeat (first | exact (Kd.C_below HR0_1.out TB) | (with_reducible refine Kd.C_alloc ?_ _) | (with_reducible refine Kd.C_drewN ?_ _) | (with_reducible refine Kd.C_drew ?_))); (case side4 => exact HC0_1.out); (case side5 => repeat (first | exact (Kd.C_below HR0_5.out TB) | (with_reducible refine Kd.C_alloc ?_ _) | (with_reducible refine Kd.C_drewN ?_ _) | (with_reducible refine Kd.C_drew ?_))); (case side6 => exact HC0_5.out); rintro e w6 ⟨rfl, hb⟩; refine ⟨_, rfl, ?_⟩; replace BK317 := aM (blk_below (by have X_ := BK317.out; exact TX) hb); replace HB := aM (below_step TB hb); clear hb))
    go_ret
    exact ⟨by first | rfl | (simp [errW_none, errW_some] <;> rfl) | (simp [*, errW_none, errW_some] <;> rfl), TB⟩
  · rw [if_neg c5] at H
    have c5b0 : decide (t318 < 0) = false := decide_eq_false c5
    clear c5
    replace H := bE H
    obtain ⟨⟨t319, t322, t325, t326, t327, t328⟩, A7, H⟩ := H
    dsimp only at H
    replace H := bE H
    obtain ⟨t331, A8, H⟩ := H
    replace H := bE H
    obtain ⟨⟨t332, t335, t338, t339, t340, t341⟩, A9, H⟩ := H
    dsimp only at H
    replace H := bE H
    obtain ⟨t345, A10, H⟩ := H
    replace H := ifM H
    obtain ⟨c11, H⟩ := H
    have c11b0 : (t345 != t331) = false := by simpa using c11
    (try (have c11b1 : decide (t345 = t331) = true := by simpa using c11))
    (try (have c11b2 : (t345 == t331) = true := by simpa using c11))
    clear c11
    replace H := bE H
    obtain ⟨⟨t346, t349, t352, t353, t354, t355⟩, A12, H⟩ := H
    dsimp only at H
    replace H := bE H
    obtain ⟨t358, A13, H⟩ := H
    replace H := ifN H
    obtain ⟨c14, H⟩ := H
    subst c14
    obtain rfl := Option.some.inj H
    try go_wp2_with (first | ((with_reducible refine gate_callee (f := 15) rfl ?_); refine gL (some 9) Try.func15 #[.agg #[.slice A0_0 l0_0.length c0_0, .slice A0_1 l0_1.length c0_1, .int .i64 a0_2, .int .i64 a0_3, .int .i64 a0_4, .slice A0_5 l0_5.length c0_5], .int .i64 1048576] ?_; (with_reducible refine (laws_szDisk.calls k _ _ l0_0 _ _ l0_1 a0_2 a0_3 a0_4 _ _ l0_5 1048576 t318 _ ?side1 ?side2 ?side3 ?side4 ?side5 ?side6 A2.out).mono ?_); (case side1 => repeat (first | exact (Kd.C_below HR0_0.out TB) | (with_reducible refine Kd.C_alloc ?_ _) | (with_reducible refine Kd.C_drewN ?_ _) | (with_reducible refine Kd.C_drew ?_))); (case side2 => exact HC0_0.out); (case side3 => repeat (first | exact (Kd.C_below HR0_1.out TB) | (with_reducible refine Kd.C_alloc ?_ _) | (with_reducible refine Kd.C_drewN ?_ _) | (with_reducible refine Kd.C_drew ?_))); (case side4 => exact HC0_1.out); (case side5 => repeat (first | exact (Kd.C_below HR0_5.out TB) | (with_reducible refine Kd.C_alloc ?_ _) | (with_reducible refine Kd.C_drewN ?_ _) | (with_reducible refine Kd.C_drew ?_))); (case side6 => exact HC0_5.out); rintro e w15 ⟨rfl, hb⟩; refine ⟨_, rfl, ?_⟩; replace BK317 := aM (blk_below (by have X_ := BK317.out; exact TX) hb); replace HB := aM (below_step TB hb); clear hb; obtain ⟨hcz16_0, hcz16_1, hcz16_2, hcz16_3, hcz16_4, hcz16_5⟩ := cz6 BK317.out; obtain ⟨hfz16_0, hfz16_1, hfz16_2, hfz16_3, hfz16_4, hfz16_5⟩ := fz6 BK317.out) | ((with_reducible refine gate_callee (f := 17) rfl ?_); refine gL (some 13) Try.func17 #[.agg #[.slice A0_0 l0_0.length c0_0, .slice A0_1 l0_1.length c0_1, .int .i64 a0_2, .int .i64 a0_3, .int .i64 a0_4, .slice A0_5 l0_5.length c0_5]] ?_; (with_reducible refine (laws_toDisk.calls k _ _ l0_0 _ _ l0_1 a0_2 a0_3 a0_4 _ _ l0_5 t319 t322 t325 t326 t327 t328 _ ?side1 ?side2 ?side3 ?side4 ?side5 ?side6 A7.out).mono ?_); (case side1 => have X_ := (Kd.C_below HR0_0.out HB.out); exact TC); (case side2 => exact HC0_0.out); (case side3 => have X_ := (Kd.C_below HR0_1.out HB.out); exact TC); (case side4 => exact HC0_1.out); (case side5 => have X_ := (Kd.C_below HR0_5.out HB.out); exact TC); (case side6 => exact HC0_5.out); rintro e w17 ⟨v320, v323, v329, rfl, ho0, ho1, ho2, hb⟩; refine ⟨_, rfl, ?_⟩; have HO321 := aM (Kd.R_lower ho0 (below_size TB)); have HO324 := aM (Kd.R_lower ho1 (below_size TB)); have HO330 := aM (Kd.S_lower ho2 (below_size TB)); replace BK317 := aM (blk_below (by have X_ := BK317.out; exact TX) hb); replace HB := aM (below_step TB hb); clear ho0 ho1 ho2 hb; obtain ⟨Ao18, co18, eo18⟩ := Kd.R_slice HO321.out; subst eo18; obtain ⟨Ao19, co19, eo19⟩ := Kd.R_slice HO324.out; subst eo19; obtain ⟨Ao20, co20, eo20⟩ := Kd.S_slice HO330.out; subst eo20) | ((with_reducible refine gate_callee (f := 27) rfl ?_); refine gL (some 14) Try.func27 #[.agg #[.slice Ao18 t319.length co18, .slice Ao19 t322.length co19, .int .i64 t325, .int .i64 t326, .int .i64 t327, .slice Ao20 t328.length co20]] ?_; (with_reducible refine (spec_DiskOk.calls k _ _ t319 _ _ t322 t325 t326 t327 _ _ t328 t331 _ ?side1 ?side2 ?side3 ?side4 ?side5 ?side6 A8.out).mono ?_); (case side1 => have X_ := (Kd.R_reads' HO321.out).2.2; exact TC); (case side2 => exact (Kd.R_reads' HO321.out).2.1); (case side3 => have X_ := (Kd.R_reads' HO324.out).2.2; exact TC); (case side4 => exact (Kd.R_reads' HO324.out).2.1); (case side5 => have X_ := (Kd.S_reads' HO330.out).2.2; exact TC); (case side6 => exact (Kd.S_reads' HO330.out).2.1); rintro e w21 ⟨rfl, hb⟩; refine ⟨_, rfl, ?_⟩; replace HO321 := aM (Kd.R_below (by have X_ := HO321.out; exact TR) hb); replace HO324 := aM (Kd.R_below (by have X_ := HO324.out; exact TR) hb); replace HO330 := aM (Kd.S_below (by have X_ := HO330.out; exact TS) hb); replace BK317 := aM (blk_below (by have X_ := BK317.out; exact TX) hb); replace HB := aM (below_step TB hb); clear hb; obtain ⟨hcz22_0, hcz22_1, hcz22_2, hcz22_3, hcz22_4, hcz22_5⟩ := cz6 BK317.out; obtain ⟨hfz22_0, hfz22_1, hfz22_2, hfz22_3, hfz22_4, hfz22_5⟩ := fz6 BK317.out) | ((with_reducible refine gate_callee (f := 17) rfl ?_); refine gL (some 16) Try.func17 #[.agg #[.slice A0_0 l0_0.length c0_0, .slice A0_1 l0_1.length c0_1, .int .i64 a0_2, .int .i64 a0_3, .int .i64 a0_4, .slice A0_5 l0_5.length c0_5]] ?_; (with_reducible refine (laws_toDisk.calls k _ _ l0_0 _ _ l0_1 a0_2 a0_3 a0_4 _ _ l0_5 t332 t335 t338 t339 t340 t341 _ ?side1 ?side2 ?side3 ?side4 ?side5 ?side6 A9.out).mono ?_); (case side1 => have X_ := (Kd.C_below HR0_0.out HB.out); exact TC); (case side2 => exact HC0_0.out); (case side3 => have X_ := (Kd.C_below HR0_1.out HB.out); exact TC); (case side4 => exact HC0_1.out); (case side5 => have X_ := (Kd.C_below HR0_5.out HB.out); exact TC); (case side6 => exact HC0_5.out); rintro e w23 ⟨v333, v336, v342, rfl, ho0, ho1, ho2, hb⟩; refine ⟨_, rfl, ?_⟩; have HO334 := aM (Kd.R_lower (Kd.R_new' (Kd.R_new' ho0 (Kd.R_lt (by have X_ := HO321.out; exact TR))) (Kd.R_lt (by have X_ := HO324.out; exact TR))) (below_size TB)); have HO337 := aM (Kd.R_lower (Kd.R_new' (Kd.R_new' ho1 (Kd.R_lt (by have X_ := HO321.out; exact TR))) (Kd.R_lt (by have X_ := HO324.out; exact TR))) (below_size TB)); have HO343 := aM (Kd.S_lower (Kd.S_new' (Kd.S_new' (Kd.S_new' ho2 (Kd.R_lt (by have X_ := HO321.out; exact TR))) (Kd.R_lt (by have X_ := HO324.out; exact TR))) (Kd.S_lt (by have X_ := HO330.out; exact TS))) (below_size TB)); replace HO321 := aM (Kd.R_mono (Kd.R_told (Kd.R_told (Kd.R_old (by have X_ := HO321.out; exact TR) hb) (Kd.R_base ho0)) (Kd.R_base ho1)) (fun _ h_ => h_.1)); replace HO324 := aM (Kd.R_mono (Kd.R_told (Kd.R_told (Kd.R_old (by have X_ := HO324.out; exact TR) hb) (Kd.R_base ho0)) (Kd.R_base ho1)) (fun _ h_ => h_.1)); replace HO330 := aM (Kd.S_mono (Kd.S_told (Kd.S_told (Kd.S_told (Kd.S_old (by have X_ := HO330.out; exact TS) hb) (Kd.R_base ho0)) (Kd.R_base ho1)) (Kd.S_base ho2)) (fun _ h_ => h_.1)); replace BK317 := aM (blk_below (by have X_ := BK317.out; exact TX) hb); replace HB := aM (below_step TB hb); clear ho0 ho1 ho2 hb) | ((with_reducible refine gate_dst (N := 5) rfl ?_); refine gBx 5 #[.slice none 0 0, .slice none 0 0, .int .i64 0, .int .i64 0, .int .i64 0, .slice none 0 0] 33 ?_; intro gb344 hg w24 hbox hb; have BK344 := aM (hbox); have GW344 := aM ((by rw [hg]; exact (below_size TB) : w.heap.size ≤ gb344)); have GE344 := aM ((by rw [hg]; exact (below_size TB) : w.heap.size ≤ gb344)); have NB317_344 := aM ((by rw [hg]; exact Nat.ne_of_lt (blk_lt (by have X_ := BK317.out; exact TX)) : gb317 ≠ gb344)); have NB344_317 := aM ((by rw [hg]; exact Nat.ne_of_gt (blk_lt (by have X_ := BK317.out; exact TX)) : gb344 ≠ gb317)); replace HO321 := aM (Kd.R_below (by have X_ := HO321.out; exact TR) hb); replace HO324 := aM (Kd.R_below (by have X_ := HO324.out; exact TR) hb); replace HO330 := aM (Kd.S_below (by have X_ := HO330.out; exact TS) hb); replace HO334 := aM (Kd.R_below (by have X_ := HO334.out; exact TR) hb); replace HO337 := aM (Kd.R_below (by have X_ := HO337.out; exact TR) hb); replace HO343 := aM (Kd.S_below (by have X_ := HO343.out; exact TS) hb); replace BK317 := aM (blk_below (by have X_ := BK317.out; exact TX) hb); replace HB := aM (below_step TB hb); clear hb hbox hg; obtain ⟨Ao25, co25, eo25⟩ := Kd.R_slice HO334.out; subst eo25; have hnb26 := NB344_317.out; have hnc26 := NB317_344.out; obtain ⟨hcz27_0, hcz27_1, hcz27_2, hcz27_3, hcz27_4, hcz27_5⟩ := cz6 BK344.out; obtain ⟨hfz27_0, hfz27_1, hfz27_2, hfz27_3, hfz27_4, hfz27_5⟩ := fz6 BK344.out; obtain ⟨Ao28, co28, eo28⟩ := Kd.R_slice HO337.out; subst eo28; obtain ⟨Ao29, co29, eo29⟩ := Kd.S_slice HO343.out; subst eo29) | ((with_reducible refine gate_callee (f := 28) rfl ?_); refine gL (some 18) Try.func28 #[.agg #[.slice Ao25 t332.length co25, .slice Ao28 t335.length co28, .int .i64 t338, .int .i64 t339, .int .i64 t340, .slice Ao29 t341.length co29]] ?_; (with_reducible refine (impl_DiskOk.calls k _ _ t332 _ _ t335 t338 t339 t340 _ _ t341 t345 _ ?side1 ?side2 ?side3 ?side4 ?side5 ?side6 A10.out).mono ?_); (case side1 => refine (Kd.R_reads' (e := 5) (base := w.heap.size) (ok := fun k_ => ((some k_ ≠ (.slice Ao28 t335.length co28 : Value).ownBlock ∧ some k_ ≠ (.slice Ao18 t319.length co18 : Value).ownBlock) ∧ some k_ ≠ (.slice Ao19 t322.length co19 : Value).ownBlock)) (n := t332.length) (c := co25) ?_).2.2; exact (by (with_reducible repeat (first | apply Kd.R_alloc | apply Kd.R_drewN | apply Kd.R_drew)); exact (R_off (Kd.R_types HO334.out BK344.out (by decide)) TO))); (case side2 => exact (Kd.R_reads' HO334.out).2.1); (case side3 => refine (Kd.R_reads' (e := 5) (base := w.heap.size) (ok := fun k_ => ((some k_ ≠ (.slice Ao25 t332.length co25 : Value).ownBlock ∧ some k_ ≠ (.slice Ao18 t319.length co18 : Value).ownBlock) ∧ some k_ ≠ (.slice Ao19 t322.length co19 : Value).ownBlock)) (n := t335.length) (c := co28) ?_).2.2; exact (by (with_reducible repeat (first | apply Kd.R_alloc | apply Kd.R_drewN | apply Kd.R_drew)); exact (R_off (Kd.R_types HO337.out BK344.out (by decide)) TO))); (case side4 => exact (Kd.R_reads' HO337.out).2.1); (case side5 => refine (Kd.S_reads' (e := 55) (base := w.heap.size) (ok := fun k_ => ((((some k_ ≠ (.slice Ao25 t332.length co25 : Value).ownBlock ∧ some k_ ≠ (.slice Ao28 t335.length co28 : Value).ownBlock) ∧ some k_ ≠ (.slice Ao18 t319.length co18 : Value).ownBlock) ∧ some k_ ≠ (.slice Ao19 t322.length co19 : Value).ownBlock) ∧ some k_ ≠ (.slice Ao20 t328.length co20 : Value).ownBlock)) (n := t341.length) (c := co29) ?_).2.2; exact (by (with_reducible repeat (first | apply Kd.S_alloc | apply Kd.S_drewN | apply Kd.S_drew)); exact (S_off (Kd.S_types HO343.out BK344.out (by decide)) TO))); (case side6 => exact (Kd.S_reads' HO343.out).2.1); rintro e w30 ⟨rfl, hb⟩; refine ⟨_, rfl, ?_⟩; replace HO321 := aM (Kd.R_below (by (with_reducible repeat (first | apply Kd.R_alloc | apply Kd.R_drewN | apply Kd.R_drew)); exact (R_off (Kd.R_types HO321.out BK344.out (by decide)) TO)) hb); replace HO324 := aM (Kd.R_below (by (with_reducible repeat (first | apply Kd.R_alloc | apply Kd.R_drewN | apply Kd.R_drew)); exact (R_off (Kd.R_types HO324.out BK344.out (by decide)) TO)) hb); replace HO330 := aM (Kd.S_below (by (with_reducible repeat (first | apply Kd.S_alloc | apply Kd.S_drewN | apply Kd.S_drew)); exact (S_off (Kd.S_types HO330.out BK344.out (by decide)) TO)) hb); replace HO334 := aM (Kd.R_below (by (with_reducible repeat (first | apply Kd.R_alloc | apply Kd.R_drewN | apply Kd.R_drew)); exact (R_off (Kd.R_types HO334.out BK344.out (by decide)) TO)) hb); replace HO337 := aM (Kd.R_below (by (with_reducible repeat (first | apply Kd.R_alloc | apply Kd.R_drewN | apply Kd.R_drew)); exact (R_off (Kd.R_types HO337.out BK344.out (by decide)) TO)) hb); replace HO343 := aM (Kd.S_below (by (with_reducible repeat (first | apply Kd.S_alloc | apply Kd.S_drewN | apply Kd.S_drew)); exact (S_off (Kd.S_types HO343.out BK344.out (by decide)) TO)) hb); replace BK317 := aM (blk_below (g := gb317) (o := .cells #[.slice A0_0 l0_0.length c0_0, .slice A0_1 l0_1.length c0_1, .int .i64 a0_2, .int .i64 a0_3, .int .i64 a0_4, .slice A0_5 l0_5.length c0_5] 27 (0, 0)) (by (with_reducible repeat (first | refine blk_drewN ?_ _ | refine blk_drew ?_ | refine blk_alloc ?_ _)); refine blk_far ?_ NB317_344.out _; (with_reducible repeat (first | refine blk_drewN ?_ _ | refine blk_drew ?_ | refine blk_alloc ?_ _)); refine blk_far ?_ NB317_344.out _; (with_reducible repeat (first | refine blk_drewN ?_ _ | refine blk_drew ?_ | refine blk_alloc ?_ _)); refine blk_far ?_ NB317_344.out _; (with_reducible repeat (first | refine blk_drewN ?_ _ | refine blk_drew ?_ | refine blk_alloc ?_ _)); refine blk_far ?_ NB317_344.out _; (with_reducible repeat (first | refine blk_drewN ?_ _ | refine blk_drew ?_ | refine blk_alloc ?_ _)); refine blk_far ?_ NB317_344.out _; (with_reducible repeat (first | refine blk_drewN ?_ _ | refine blk_drew ?_ | refine blk_alloc ?_ _)); refine blk_far ?_ NB317_344.out _; (with_reducible repeat (first | refine blk_drewN ?_ _ | refine blk_drew ?_ | refine blk_alloc ?_ _)); exact BK317.out) hb); replace BK344 := aM (blk_below (g := gb344) (o := .cells #[.slice Ao25 t332.length co25, .slice Ao28 t335.length co28, .int .i64 t338, .int .i64 t339, .int .i64 t340, .slice Ao29 t341.length co29] 33 (0, 0)) (by (with_reducible repeat (first | refine blk_drewN ?_ _ | refine blk_drew ?_ | refine blk_alloc ?_ _)); refine blk_put (cs := #[.slice Ao25 t332.length co25, .slice Ao28 t335.length co28, .int .i64 t338, .int .i64 t339, .int .i64 t340, .slice none 0 0]) ?_ 5 _ rfl; (with_reducible repeat (first | refine blk_drewN ?_ _ | refine blk_drew ?_ | refine blk_alloc ?_ _)); refine blk_put (cs := #[.slice Ao25 t332.length co25, .slice Ao28 t335.length co28, .int .i64 t338, .int .i64 t339, .int .i64 0, .slice none 0 0]) ?_ 4 _ rfl; (with_reducible repeat (first | refine blk_drewN ?_ _ | refine blk_drew ?_ | refine blk_alloc ?_ _)); refine blk_put (cs := #[.slice Ao25 t332.length co25, .slice Ao28 t335.length co28, .int .i64 t338, .int .i64 0, .int .i64 0, .slice none 0 0]) ?_ 3 _ rfl; (with_reducible repeat (first | refine blk_drewN ?_ _ | refine blk_drew ?_ | refine blk_alloc ?_ _)); refine blk_put (cs := #[.slice Ao25 t332.length co25, .slice Ao28 t335.length co28, .int .i64 0, .int .i64 0, .int .i64 0, .slice none 0 0]) ?_ 2 _ rfl; (with_reducible repeat (first | refine blk_drewN ?_ _ | refine blk_drew ?_ | refine blk_alloc ?_ _)); refine blk_put (cs := #[.slice Ao25 t332.length co25, .slice none 0 0, .int .i64 0, .int .i64 0, .int .i64 0, .slice none 0 0]) ?_ 1 _ rfl; (with_reducible repeat (first | refine blk_drewN ?_ _ | refine blk_drew ?_ | refine blk_alloc ?_ _)); refine blk_put (cs := #[.slice none 0 0, .slice none 0 0, .int .i64 0, .int .i64 0, .int .i64 0, .slice none 0 0]) ?_ 0 _ rfl; (with_reducible repeat (first | refine blk_drewN ?_ _ | refine blk_drew ?_ | refine blk_alloc ?_ _)); exact BK344.out) hb); replace HB := aM (below_step TB hb); clear hb))
    replace HO321 := aM (Kd.R_drew HO321.out)
    replace HO324 := aM (Kd.R_drew HO324.out)
    replace HO330 := aM (Kd.S_drew HO330.out)
    replace HO334 := aM (Kd.R_drew HO334.out)
    replace HO337 := aM (Kd.R_drew HO337.out)
    replace HO343 := aM (Kd.S_drew HO343.out)
    replace BK317 := aM (blk_drew BK317.out)
    replace BK344 := aM (blk_drew BK344.out)
    replace HB := aM (below_drew1 HB.out)
    refine start_ (n := 5) (S := fun w' => w'.cell? ⟨gb344, 0, none⟩ = some (.slice Ao25 t332.length co25) ∧ w'.cell? ⟨gb344, 1, none⟩ = some (.slice Ao28 t335.length co28) ∧ w'.cell? ⟨gb344, 2, none⟩ = some (.int .i64 t338) ∧ w'.cell? ⟨gb344, 3, none⟩ = some (.int .i64 t339) ∧ w'.cell? ⟨gb344, 4, none⟩ = some (.int .i64 t340) ∧ w'.cell? ⟨gb344, 5, none⟩ = some (.slice Ao29 t341.length co29) ∧ w'.cell? ⟨gb317, 0, none⟩ = some (.slice A0_0 l0_0.length c0_0) ∧ w'.cell? ⟨gb317, 1, none⟩ = some (.slice A0_1 l0_1.length c0_1) ∧ w'.cell? ⟨gb317, 2, none⟩ = some (.int .i64 a0_2) ∧ w'.cell? ⟨gb317, 3, none⟩ = some (.int .i64 a0_3) ∧ w'.cell? ⟨gb317, 4, none⟩ = some (.int .i64 a0_4) ∧ w'.cell? ⟨gb317, 5, none⟩ = some (.slice A0_5 l0_5.length c0_5)) (ds := []) (Array.replicate 5 false) (by kernel_rfl) rfl rfl ⟨(blk_cell BK344.out 0).trans rfl, (blk_cell BK344.out 1).trans rfl, (blk_cell BK344.out 2).trans rfl, (blk_cell BK344.out 3).trans rfl, (blk_cell BK344.out 4).trans rfl, (blk_cell BK344.out 5).trans rfl, (blk_cell BK317.out 0).trans rfl, (blk_cell BK317.out 1).trans rfl, (blk_cell BK317.out 2).trans rfl, (blk_cell BK317.out 3).trans rfl, (blk_cell BK317.out 4).trans rfl, (blk_cell BK317.out 5).trans rfl⟩ (fun hHeld => ?_)
    generalize w30.drew = w31 at HO321 HO324 HO330 HO334 HO337 HO343 BK317 BK344 HB hHeld ⊢
    refine pT 0 (some 22) ?_
    refine pT 1 (some 23) ?_
    refine pO 2 (some 24) (fun K hK => ?_)
    refine gG Try.func17 #[.agg #[.slice A0_0 l0_0.length c0_0, .slice A0_1 l0_1.length c0_1, .int .i64 a0_2, .int .i64 a0_3, .int .i64 a0_4, .slice A0_5 l0_5.length c0_5]] ?_
    with_reducible refine (laws_toDisk.calls k _ _ l0_0 _ _ l0_1 a0_2 a0_3 a0_4 _ _ l0_5 t346 t349 t352 t353 t354 t355 _ ?side1 ?side2 ?side3 ?side4 ?side5 ?side6 A12.out).mono ?_
    (case side1 => have X_ := (Kd.C_below HR0_0.out HB.out); exact TC)
    (case side2 => exact HC0_0.out)
    (case side3 => have X_ := (Kd.C_below HR0_1.out HB.out); exact TC)
    (case side4 => exact HC0_1.out)
    (case side5 => have X_ := (Kd.C_below HR0_5.out HB.out); exact TC)
    (case side6 => exact HC0_5.out)
    rintro e w32 ⟨v347, v350, v356, rfl, ho0, ho1, ho2, hb⟩
    refine ⟨_, rfl, ?_⟩
    have n0_ := aM (Kd.R_mono (Kd.R_told (Kd.R_told (Kd.R_old (by have X_ := HO321.out; exact TR) hb) (Kd.R_base ho0)) (Kd.R_base ho1)) (fun _ h_ => h_.1))
    have n1_ := aM (Kd.R_mono (Kd.R_told (Kd.R_told (Kd.R_old (by have X_ := HO324.out; exact TR) hb) (Kd.R_base ho0)) (Kd.R_base ho1)) (fun _ h_ => h_.1))
    have n2_ := aM (Kd.S_mono (Kd.S_told (Kd.S_told (Kd.S_told (Kd.S_old (by have X_ := HO330.out; exact TS) hb) (Kd.R_base ho0)) (Kd.R_base ho1)) (Kd.S_base ho2)) (fun _ h_ => h_.1))
    have n3_ := aM (Kd.R_mono (Kd.R_told (Kd.R_told (Kd.R_old (by have X_ := HO334.out; exact TR) hb) (Kd.R_base ho0)) (Kd.R_base ho1)) (fun _ h_ => h_.1))
    have n4_ := aM (Kd.R_mono (Kd.R_told (Kd.R_told (Kd.R_old (by have X_ := HO337.out; exact TR) hb) (Kd.R_base ho0)) (Kd.R_base ho1)) (fun _ h_ => h_.1))
    have n5_ := aM (Kd.S_mono (Kd.S_told (Kd.S_told (Kd.S_told (Kd.S_old (by have X_ := HO343.out; exact TS) hb) (Kd.R_base ho0)) (Kd.R_base ho1)) (Kd.S_base ho2)) (fun _ h_ => h_.1))
    have n6_ := aM (Kd.R_lower (Kd.R_new' (Kd.R_new' (Kd.R_new' (Kd.R_new' ho0 (Kd.R_lt (by have X_ := HO321.out; exact TR))) (Kd.R_lt (by have X_ := HO324.out; exact TR))) (Kd.R_lt (by have X_ := HO334.out; exact TR))) (Kd.R_lt (by have X_ := HO337.out; exact TR))) (below_size TB))
    have n7_ := aM (Kd.R_lower (Kd.R_new' (Kd.R_new' (Kd.R_new' (Kd.R_new' ho1 (Kd.R_lt (by have X_ := HO321.out; exact TR))) (Kd.R_lt (by have X_ := HO324.out; exact TR))) (Kd.R_lt (by have X_ := HO334.out; exact TR))) (Kd.R_lt (by have X_ := HO337.out; exact TR))) (below_size TB))
    have n8_ := aM (Kd.S_lower (Kd.S_new' (Kd.S_new' (Kd.S_new' (Kd.S_new' (Kd.S_new' (Kd.S_new' ho2 (Kd.R_lt (by have X_ := HO321.out; exact TR))) (Kd.R_lt (by have X_ := HO324.out; exact TR))) (Kd.S_lt (by have X_ := HO330.out; exact TS))) (Kd.R_lt (by have X_ := HO334.out; exact TR))) (Kd.R_lt (by have X_ := HO337.out; exact TR))) (Kd.S_lt (by have X_ := HO343.out; exact TS))) (below_size TB))
    have n9_ := aM (blk_below (by have X_ := BK317.out; exact TX) hb)
    have n10_ := aM (blk_below (by have X_ := BK344.out; exact TX) hb)
    have n11_ := aM (below_step TB hb)
    clear HO321
    clear HO324
    clear HO330
    clear HO334
    clear HO337
    clear HO343
    clear BK317
    clear BK344
    clear HB
    have HO321 := n0_
    have HO324 := n1_
    have HO330 := n2_
    have HO334 := n3_
    have HO337 := n4_
    have HO343 := n5_
    have HO348 := n6_
    have HO351 := n7_
    have HO357 := n8_
    have BK317 := n9_
    have BK344 := n10_
    have HB := n11_
    clear n0_ n1_ n2_ n3_ n4_ n5_ n6_ n7_ n8_ n9_ n10_ n11_
    (try clear hb)
    (try clear hb2)
    (try clear hk)
    (try clear hi)
    (try clear ho0)
    (try clear ho1)
    (try clear ho2)
    obtain ⟨Ao33, co33, eo33⟩ := Kd.R_slice HO348.out
    (first | subst eo33 | (injection eo33 with f1_ f2_ f3_; have f4_ := f1_.symm; have f5_ := f3_.symm; clear f1_ f2_ f3_; subst f4_; subst f5_))
    obtain ⟨Ao34, co34, eo34⟩ := Kd.R_slice HO351.out
    (first | subst eo34 | (injection eo34 with f1_ f2_ f3_; have f4_ := f1_.symm; have f5_ := f3_.symm; clear f1_ f2_ f3_; subst f4_; subst f5_))
    obtain ⟨Ao35, co35, eo35⟩ := Kd.S_slice HO357.out
    (first | subst eo35 | (injection eo35 with f1_ f2_ f3_; have f4_ := f1_.symm; have f5_ := f3_.symm; clear f1_ f2_ f3_; subst f4_; subst f5_))
    refine hK.out _ _ ⟨(blk_cell BK344.out 0).trans rfl, (blk_cell BK344.out 1).trans rfl, (blk_cell BK344.out 2).trans rfl, (blk_cell BK344.out 3).trans rfl, (blk_cell BK344.out 4).trans rfl, (blk_cell BK344.out 5).trans rfl, (blk_cell BK317.out 0).trans rfl, (blk_cell BK317.out 1).trans rfl, (blk_cell BK317.out 2).trans rfl, (blk_cell BK317.out 3).trans rfl, (blk_cell BK317.out 4).trans rfl, (blk_cell BK317.out 5).trans rfl⟩ (fun hHeld => ?_)
    clear hK K
    refine nR ?_
    refine pO 3 (some 25) (fun K hK => ?_)
    refine gG Try.func19 #[.agg #[.slice Ao25 t332.length co25, .slice Ao28 t335.length co28, .int .i64 t338, .int .i64 t339, .int .i64 t340, .slice Ao29 t341.length co29], .agg #[.slice Ao33 t346.length co33, .slice Ao34 t349.length co34, .int .i64 t352, .int .i64 t353, .int .i64 t354, .slice Ao35 t355.length co35]] ?_
    with_reducible refine (laws_eqDisk.calls k _ _ t332 _ _ t335 t338 t339 t340 _ _ t341 _ _ t346 _ _ t349 t352 t353 t354 _ _ t355 true _ ?side1 ?side2 ?side3 ?side4 ?side5 ?side6 ?side7 ?side8 ?side9 ?side10 ?side11 ?side12 A13.out).mono ?_
    (case side1 => have X_ := (Kd.R_reads' HO334.out).2.2; exact TC)
    (case side2 => exact (Kd.R_reads' HO334.out).2.1)
    (case side3 => have X_ := (Kd.R_reads' HO337.out).2.2; exact TC)
    (case side4 => exact (Kd.R_reads' HO337.out).2.1)
    (case side5 => have X_ := (Kd.S_reads' HO343.out).2.2; exact TC)
    (case side6 => exact (Kd.S_reads' HO343.out).2.1)
    (case side7 => have X_ := (Kd.R_reads' HO348.out).2.2; exact TC)
    (case side8 => exact (Kd.R_reads' HO348.out).2.1)
    (case side9 => have X_ := (Kd.R_reads' HO351.out).2.2; exact TC)
    (case side10 => exact (Kd.R_reads' HO351.out).2.1)
    (case side11 => have X_ := (Kd.S_reads' HO357.out).2.2; exact TC)
    (case side12 => exact (Kd.S_reads' HO357.out).2.1)
    rintro e w36 ⟨rfl, hb⟩
    refine ⟨_, rfl, ?_⟩
    have n0_ := aM (Kd.R_below (by have X_ := HO321.out; exact TR) hb)
    have n1_ := aM (Kd.R_below (by have X_ := HO324.out; exact TR) hb)
    have n2_ := aM (Kd.S_below (by have X_ := HO330.out; exact TS) hb)
    have n3_ := aM (Kd.R_below (by have X_ := HO334.out; exact TR) hb)
    have n4_ := aM (Kd.R_below (by have X_ := HO337.out; exact TR) hb)
    have n5_ := aM (Kd.S_below (by have X_ := HO343.out; exact TS) hb)
    have n6_ := aM (Kd.R_below (by have X_ := HO348.out; exact TR) hb)
    have n7_ := aM (Kd.R_below (by have X_ := HO351.out; exact TR) hb)
    have n8_ := aM (Kd.S_below (by have X_ := HO357.out; exact TS) hb)
    have n9_ := aM (blk_below (by have X_ := BK317.out; exact TX) hb)
    have n10_ := aM (blk_below (by have X_ := BK344.out; exact TX) hb)
    have n11_ := aM (below_step TB hb)
    clear HO321
    clear HO324
    clear HO330
    clear HO334
    clear HO337
    clear HO343
    clear HO348
    clear HO351
    clear HO357
    clear BK317
    clear BK344
    clear HB
    have HO321 := n0_
    have HO324 := n1_
    have HO330 := n2_
    have HO334 := n3_
    have HO337 := n4_
    have HO343 := n5_
    have HO348 := n6_
    have HO351 := n7_
    have HO357 := n8_
    have BK317 := n9_
    have BK344 := n10_
    have HB := n11_
    clear n0_ n1_ n2_ n3_ n4_ n5_ n6_ n7_ n8_ n9_ n10_ n11_
    (try clear hb)
    (try clear hb2)
    (try clear hk)
    (try clear hi)
    refine hK.out _ _ ⟨(blk_cell BK344.out 0).trans rfl, (blk_cell BK344.out 1).trans rfl, (blk_cell BK344.out 2).trans rfl, (blk_cell BK344.out 3).trans rfl, (blk_cell BK344.out 4).trans rfl, (blk_cell BK344.out 5).trans rfl, (blk_cell BK317.out 0).trans rfl, (blk_cell BK317.out 1).trans rfl, (blk_cell BK317.out 2).trans rfl, (blk_cell BK317.out 3).trans rfl, (blk_cell BK317.out 4).trans rfl, (blk_cell BK317.out 5).trans rfl⟩ (fun hHeld => ?_)
    clear hK K
    refine nR ?_
    refine pP 4 (some 26) ?_
    refine done_ (by kernel_rfl) ?_
    try go_wp2
    go_ret
    exact ⟨by first | rfl | (simp [errW_none, errW_some] <;> rfl) | (simp [*, errW_none, errW_some] <;> rfl), TB⟩

end Go.Proofs.Ytogilihkphjjbaa.Q
