/- Functions of the program as plain Lean functions, and that a call of each comes to what its function tells. Written by a program of this seat. -/
import Derived.Test.YtogilihkphjjbaaQ0
import Derived.Test.YtogilihkphjjbaaQ2
import Derived.Test.YtogilihkphjjbaaQ3
import Derived.Test.YtogilihkphjjbaaQ6
import Derived.Test.YtogilihkphjjbaaQ7
namespace Go.Proofs.Ytogilihkphjjbaa.Q
open Go.RowKit Go.Proofs.YtogilihkphjjbaaW.PrintWords Go.Proofs.YtogilihkphjjbaaW.PrintLast Go.Proofs.YtogilihkphjjbaaW.PrintMore
attribute [local go_sem] max2_int min2_int max_two min_two max_three min_three max_four min_four   -- for this text's walks alone
set_option linter.unusedVariables false
set_option linter.unusedSimpArgs false

/-! ### laws_FnExactSpare: function 3 -/
def laws_FnExactSpare.f (k : Nat) (l0_0 : List Int) (l0_1 : List Int) (a0_2 : Int) (a0_3 : Int) (a0_4 : Int) (l0_5 : List (S51)) : Option (Bool) := (laws_szDisk.f k l0_0 l0_1 a0_2 a0_3 a0_4 l0_5 1048576).bind fun t174 => (if t174 < 0 then (some true) else ((laws_toDisk.f k l0_0 l0_1 a0_2 a0_3 a0_4 l0_5).bind fun bt175 => ((spec_Spare.f bt175.1 bt175.2.1 bt175.2.2.1 bt175.2.2.2.1 bt175.2.2.2.2.1 bt175.2.2.2.2.2).bind fun t187 => ((laws_toDisk.f k l0_0 l0_1 a0_2 a0_3 a0_4 l0_5).bind fun bt188 => ((impl_Spare.f bt188.1 bt188.2.1 bt188.2.2.1 bt188.2.2.2.1 bt188.2.2.2.2.1 bt188.2.2.2.2.2).bind fun t201 => (if t201 = t187 then ((laws_toDisk.f k l0_0 l0_1 a0_2 a0_3 a0_4 l0_5).bind fun bt202 => ((laws_eqDisk.f k bt188.1 bt188.2.1 bt188.2.2.1 bt188.2.2.2.1 bt188.2.2.2.2.1 bt188.2.2.2.2.2 bt202.1 bt202.2.1 bt202.2.2.1 bt202.2.2.2.1 bt202.2.2.2.2.1 bt202.2.2.2.2.2).bind fun t214 => (if t214 = true then (some true) else (none)))) else (none)))))))
theorem laws_FnExactSpare.mono : ∀ a0 a1 a2 a3 a4 a5 k, LeO (laws_FnExactSpare.f k a0 a1 a2 a3 a4 a5) (laws_FnExactSpare.f (k + 1) a0 a1 a2 a3 a4 a5) := by
  intro a0 a1 a2 a3 a4 a5 k
  have m0_ := @laws_eqDisk.mono
  have m1_ := @laws_szDisk.mono
  have m2_ := @laws_toDisk.mono
  unfold laws_FnExactSpare.f
  exact LM
set_option maxHeartbeats 40000000 in
set_option maxRecDepth 100000 in
theorem laws_FnExactSpare.calls (k : Nat) (A0_0 : Option Addr) (c0_0 : Nat) (l0_0 : List Int) (A0_1 : Option Addr) (c0_1 : Nat) (l0_1 : List Int) (a0_2 : Int) (a0_3 : Int) (a0_4 : Int) (A0_5 : Option Addr) (c0_5 : Nat) (l0_5 : List (S51)) (r : Bool) (w : World) (hr0_0 : Kd.C (Kd.int .u8) w A0_0 l0_0.length l0_0) (hc0_0 : l0_0.length ≤ c0_0) (hr0_1 : Kd.C (Kd.int .u8) w A0_1 l0_1.length l0_1) (hc0_1 : l0_1.length ≤ c0_1) (hr0_5 : Kd.C k51 w A0_5 l0_5.length l0_5) (hc0_5 : l0_5.length ≤ c0_5) (h : laws_FnExactSpare.f k l0_0 l0_1 a0_2 a0_3 a0_4 l0_5 = some r) :
    Calls Try.prog 3 #[.agg #[.slice A0_0 l0_0.length c0_0, .slice A0_1 l0_1.length c0_1, .int .i64 a0_2, .int .i64 a0_3, .int .i64 a0_4, .slice A0_5 l0_5.length c0_5]] w fun e w' => e = .returned (.bool r) ∧ Below w.heap.size w w' := by
  have hu27 := Try.underlying27
  have hu33 := Try.underlying33
  have HR0_0 := aM hr0_0
  have HC0_0 := aM hc0_0
  clear hr0_0 hc0_0
  have HR0_1 := aM hr0_1
  have HC0_1 := aM hc0_1
  clear hr0_1 hc0_1
  have HR0_5 := aM hr0_5
  have HC0_5 := aM hc0_5
  clear hr0_5 hc0_5
  have HB := aM (Below.refl w.heap.size w)
  have H := h
  clear h
  unfold laws_FnExactSpare.f at H
  replace H := bE H
  obtain ⟨t174, A2, H⟩ := H
  go_enter Try.func3, Try.ntmps3
  go_wp2_with (first | ((with_reducible refine gate_dst (N := 1) rfl ?_); refine gBx 1 #[.slice A0_0 l0_0.length c0_0, .slice A0_1 l0_1.length c0_1, .int .i64 a0_2, .int .i64 a0_3, .int .i64 a0_4, .slice A0_5 l0_5.length c0_5] 27 ?_; intro gb173 hg w3 hbox hb; have BK173 := aM (hbox); have GW173 := aM ((by rw [hg]; exact (below_size TB) : w.heap.size ≤ gb173)); have GE173 := aM ((by rw [hg]; exact (below_size TB) : w.heap.size ≤ gb173)); replace HB := aM (below_step TB hb); clear hb hbox hg; obtain ⟨hcz4_0, hcz4_1, hcz4_2, hcz4_3, hcz4_4, hcz4_5⟩ := cz6 BK173.out; obtain ⟨hfz4_0, hfz4_1, hfz4_2, hfz4_3, hfz4_4, hfz4_5⟩ := fz6 BK173.out) | ((with_reducible refine gate_callee (f := 15) rfl ?_); (with_reducible refine gate_dst (N := 9) rfl ?_); generalize hG_ : wpList _ _ _ _ _ _ = G_))
  subst hG_
  by_cases c5 : t174 < 0
  · rw [if_pos c5] at H
    have c5b0 : decide (t174 < 0) = true := decide_eq_true c5
    clear c5
    obtain rfl := Option.some.inj H
    go_wp2_with (first | ((with_reducible refine gate_callee (f := 15) rfl ?_); refine gL (some 9) Try.func15 #[.agg #[.slice A0_0 l0_0.length c0_0, .slice A0_1 l0_1.length c0_1, .int .i64 a0_2, .int .i64 a0_3, .int .i64 a0_4, .slice A0_5 l0_5.length c0_5], .int .i64 1048576] ?_; (with_reducible refine (laws_szDisk.calls k _ _ l0_0 _ _ l0_1 a0_2 a0_3 a0_4 _ _ l0_5 1048576 t174 _ ?side1 ?side2 ?side3 ?side4 ?side5 ?side6 A2.out).mono ?_); (case side1 => repeat (first | exact (Kd.C_below HR0_0.out TB) | (with_reducible refine Kd.C_alloc ?_ _) | (with_reducible refine Kd.C_drewN ?_ _) | (with_reducible refine Kd.C_drew ?_))); (case side2 => exact HC0_0.out); (case side3 => repeat (first | exact (Kd.C_below HR0_1.out TB) | (with_reducible refine Kd.C_alloc ?_ _) | (with_reducible refine Kd.C_drewN ?_ _) | (with_reducible refine Kd.C_drew ?_))); (case side4 => exact HC0_1.out); (case side5 => repeat (first | exact (Kd.C_below HR0_5.out TB) | (with_reducible refine Kd.C_alloc ?_ _) | (with_reducible refine Kd.C_drewN ?_ _) | (with_reducible refine Kd.C_drew ?_))); (case side6 => exact HC0_5.out); rintro e w6 ⟨rfl, hb⟩; refine ⟨_, rfl, ?_⟩; replace BK173 := aM (blk_below (by have X_ := BK173.out; exact TX) hb); replace HB := aM (below_step TB hb); clear hb))
    go_ret
    exact ⟨by first | rfl | (simp [errW_none, errW_some] <;> rfl) | (simp [*, errW_none, errW_some] <;> rfl), TB⟩
  · rw [if_neg c5] at H
    have c5b0 : decide (t174 < 0) = false := decide_eq_false c5
    clear c5
    replace H := bE H
    obtain ⟨⟨t175, t178, t181, t182, t183, t184⟩, A7, H⟩ := H
    dsimp only at H
    replace H := bE H
    obtain ⟨t187, A8, H⟩ := H
    replace H := bE H
    obtain ⟨⟨t188, t191, t194, t195, t196, t197⟩, A9, H⟩ := H
    dsimp only at H
    replace H := bE H
    obtain ⟨t201, A10, H⟩ := H
    replace H := ifN H
    obtain ⟨c11, H⟩ := H
    have c11b0 : (t201 == t187) = true := beq_iff_eq.mpr c11
    have c11b1 : (t201 != t187) = false := bne_eq_false_iff_eq.mpr c11
    clear c11
    replace H := bE H
    obtain ⟨⟨t202, t205, t208, t209, t210, t211⟩, A12, H⟩ := H
    dsimp only at H
    replace H := bE H
    obtain ⟨t214, A13, H⟩ := H
    replace H := ifN H
    obtain ⟨c14, H⟩ := H
    subst c14
    obtain rfl := Option.some.inj H
    try go_wp2_with (first | ((with_reducible refine gate_callee (f := 15) rfl ?_); refine gL (some 9) Try.func15 #[.agg #[.slice A0_0 l0_0.length c0_0, .slice A0_1 l0_1.length c0_1, .int .i64 a0_2, .int .i64 a0_3, .int .i64 a0_4, .slice A0_5 l0_5.length c0_5], .int .i64 1048576] ?_; (with_reducible refine (laws_szDisk.calls k _ _ l0_0 _ _ l0_1 a0_2 a0_3 a0_4 _ _ l0_5 1048576 t174 _ ?side1 ?side2 ?side3 ?side4 ?side5 ?side6 A2.out).mono ?_); (case side1 => repeat (first | exact (Kd.C_below HR0_0.out TB) | (with_reducible refine Kd.C_alloc ?_ _) | (with_reducible refine Kd.C_drewN ?_ _) | (with_reducible refine Kd.C_drew ?_))); (case side2 => exact HC0_0.out); (case side3 => repeat (first | exact (Kd.C_below HR0_1.out TB) | (with_reducible refine Kd.C_alloc ?_ _) | (with_reducible refine Kd.C_drewN ?_ _) | (with_reducible refine Kd.C_drew ?_))); (case side4 => exact HC0_1.out); (case side5 => repeat (first | exact (Kd.C_below HR0_5.out TB) | (with_reducible refine Kd.C_alloc ?_ _) | (with_reducible refine Kd.C_drewN ?_ _) | (with_reducible refine Kd.C_drew ?_))); (case side6 => exact HC0_5.out); rintro e w15 ⟨rfl, hb⟩; refine ⟨_, rfl, ?_⟩; replace BK173 := aM (blk_below (by have X_ := BK173.out; exact TX) hb); replace HB := aM (below_step TB hb); clear hb; obtain ⟨hcz16_0, hcz16_1, hcz16_2, hcz16_3, hcz16_4, hcz16_5⟩ := cz6 BK173.out; obtain ⟨hfz16_0, hfz16_1, hfz16_2, hfz16_3, hfz16_4, hfz16_5⟩ := fz6 BK173.out) | ((with_reducible refine gate_callee (f := 17) rfl ?_); refine gL (some 13) Try.func17 #[.agg #[.slice A0_0 l0_0.length c0_0, .slice A0_1 l0_1.length c0_1, .int .i64 a0_2, .int .i64 a0_3, .int .i64 a0_4, .slice A0_5 l0_5.length c0_5]] ?_; (with_reducible refine (laws_toDisk.calls k _ _ l0_0 _ _ l0_1 a0_2 a0_3 a0_4 _ _ l0_5 t175 t178 t181 t182 t183 t184 _ ?side1 ?side2 ?side3 ?side4 ?side5 ?side6 A7.out).mono ?_); (case side1 => have X_ := (Kd.C_below HR0_0.out HB.out); exact TC); (case side2 => exact HC0_0.out); (case side3 => have X_ := (Kd.C_below HR0_1.out HB.out); exact TC); (case side4 => exact HC0_1.out); (case side5 => have X_ := (Kd.C_below HR0_5.out HB.out); exact TC); (case side6 => exact HC0_5.out); rintro e w17 ⟨v176, v179, v185, rfl, ho0, ho1, ho2, hb⟩; refine ⟨_, rfl, ?_⟩; have HO177 := aM (Kd.R_lower ho0 (below_size TB)); have HO180 := aM (Kd.R_lower ho1 (below_size TB)); have HO186 := aM (Kd.S_lower ho2 (below_size TB)); replace BK173 := aM (blk_below (by have X_ := BK173.out; exact TX) hb); replace HB := aM (below_step TB hb); clear ho0 ho1 ho2 hb; obtain ⟨Ao18, co18, eo18⟩ := Kd.R_slice HO177.out; subst eo18; obtain ⟨Ao19, co19, eo19⟩ := Kd.R_slice HO180.out; subst eo19; obtain ⟨Ao20, co20, eo20⟩ := Kd.S_slice HO186.out; subst eo20) | ((with_reducible refine gate_callee (f := 16) rfl ?_); refine gL (some 14) Try.func16 #[.agg #[.slice Ao18 t175.length co18, .slice Ao19 t178.length co19, .int .i64 t181, .int .i64 t182, .int .i64 t183, .slice Ao20 t184.length co20]] ?_; (with_reducible refine (spec_Spare.calls _ _ t175 _ _ t178 t181 t182 t183 _ _ t184 t187 _ ?side1 ?side2 ?side3 ?side4 ?side5 ?side6 A8.out).mono ?_); (case side1 => have X_ := (Kd.R_reads' HO177.out).2.2; exact TC); (case side2 => exact (Kd.R_reads' HO177.out).2.1); (case side3 => have X_ := (Kd.R_reads' HO180.out).2.2; exact TC); (case side4 => exact (Kd.R_reads' HO180.out).2.1); (case side5 => have X_ := (Kd.S_reads' HO186.out).2.2; exact TC); (case side6 => exact (Kd.S_reads' HO186.out).2.1); rintro e w21 ⟨rfl, hb⟩; refine ⟨_, rfl, ?_⟩; replace HO177 := aM (Kd.R_below (by have X_ := HO177.out; exact TR) hb); replace HO180 := aM (Kd.R_below (by have X_ := HO180.out; exact TR) hb); replace HO186 := aM (Kd.S_below (by have X_ := HO186.out; exact TS) hb); replace BK173 := aM (blk_below (by have X_ := BK173.out; exact TX) hb); replace HB := aM (below_step TB hb); clear hb; obtain ⟨hcz22_0, hcz22_1, hcz22_2, hcz22_3, hcz22_4, hcz22_5⟩ := cz6 BK173.out; obtain ⟨hfz22_0, hfz22_1, hfz22_2, hfz22_3, hfz22_4, hfz22_5⟩ := fz6 BK173.out) | ((with_reducible refine gate_callee (f := 17) rfl ?_); refine gL (some 16) Try.func17 #[.agg #[.slice A0_0 l0_0.length c0_0, .slice A0_1 l0_1.length c0_1, .int .i64 a0_2, .int .i64 a0_3, .int .i64 a0_4, .slice A0_5 l0_5.length c0_5]] ?_; (with_reducible refine (laws_toDisk.calls k _ _ l0_0 _ _ l0_1 a0_2 a0_3 a0_4 _ _ l0_5 t188 t191 t194 t195 t196 t197 _ ?side1 ?side2 ?side3 ?side4 ?side5 ?side6 A9.out).mono ?_); (case side1 => have X_ := (Kd.C_below HR0_0.out HB.out); exact TC); (case side2 => exact HC0_0.out); (case side3 => have X_ := (Kd.C_below HR0_1.out HB.out); exact TC); (case side4 => exact HC0_1.out); (case side5 => have X_ := (Kd.C_below HR0_5.out HB.out); exact TC); (case side6 => exact HC0_5.out); rintro e w23 ⟨v189, v192, v198, rfl, ho0, ho1, ho2, hb⟩; refine ⟨_, rfl, ?_⟩; have HO190 := aM (Kd.R_lower (Kd.R_new' (Kd.R_new' ho0 (Kd.R_lt (by have X_ := HO177.out; exact TR))) (Kd.R_lt (by have X_ := HO180.out; exact TR))) (below_size TB)); have HO193 := aM (Kd.R_lower (Kd.R_new' (Kd.R_new' ho1 (Kd.R_lt (by have X_ := HO177.out; exact TR))) (Kd.R_lt (by have X_ := HO180.out; exact TR))) (below_size TB)); have HO199 := aM (Kd.S_lower (Kd.S_new' (Kd.S_new' (Kd.S_new' ho2 (Kd.R_lt (by have X_ := HO177.out; exact TR))) (Kd.R_lt (by have X_ := HO180.out; exact TR))) (Kd.S_lt (by have X_ := HO186.out; exact TS))) (below_size TB)); replace HO177 := aM (Kd.R_mono (Kd.R_told (Kd.R_told (Kd.R_old (by have X_ := HO177.out; exact TR) hb) (Kd.R_base ho0)) (Kd.R_base ho1)) (fun _ h_ => h_.1)); replace HO180 := aM (Kd.R_mono (Kd.R_told (Kd.R_told (Kd.R_old (by have X_ := HO180.out; exact TR) hb) (Kd.R_base ho0)) (Kd.R_base ho1)) (fun _ h_ => h_.1)); replace HO186 := aM (Kd.S_mono (Kd.S_told (Kd.S_told (Kd.S_told (Kd.S_old (by have X_ := HO186.out; exact TS) hb) (Kd.R_base ho0)) (Kd.R_base ho1)) (Kd.S_base ho2)) (fun _ h_ => h_.1)); replace BK173 := aM (blk_below (by have X_ := BK173.out; exact TX) hb); replace HB := aM (below_step TB hb); clear ho0 ho1 ho2 hb) | ((with_reducible refine gate_dst (N := 5) rfl ?_); refine gBx 5 #[.slice none 0 0, .slice none 0 0, .int .i64 0, .int .i64 0, .int .i64 0, .slice none 0 0] 33 ?_; intro gb200 hg w24 hbox hb; have BK200 := aM (hbox); have GW200 := aM ((by rw [hg]; exact (below_size TB) : w.heap.size ≤ gb200)); have GE200 := aM ((by rw [hg]; exact (below_size TB) : w.heap.size ≤ gb200)); have NB173_200 := aM ((by rw [hg]; exact Nat.ne_of_lt (blk_lt (by have X_ := BK173.out; exact TX)) : gb173 ≠ gb200)); have NB200_173 := aM ((by rw [hg]; exact Nat.ne_of_gt (blk_lt (by have X_ := BK173.out; exact TX)) : gb200 ≠ gb173)); replace HO177 := aM (Kd.R_below (by have X_ := HO177.out; exact TR) hb); replace HO180 := aM (Kd.R_below (by have X_ := HO180.out; exact TR) hb); replace HO186 := aM (Kd.S_below (by have X_ := HO186.out; exact TS) hb); replace HO190 := aM (Kd.R_below (by have X_ := HO190.out; exact TR) hb); replace HO193 := aM (Kd.R_below (by have X_ := HO193.out; exact TR) hb); replace HO199 := aM (Kd.S_below (by have X_ := HO199.out; exact TS) hb); replace BK173 := aM (blk_below (by have X_ := BK173.out; exact TX) hb); replace HB := aM (below_step TB hb); clear hb hbox hg; obtain ⟨Ao25, co25, eo25⟩ := Kd.R_slice HO190.out; subst eo25; have hnb26 := NB200_173.out; have hnc26 := NB173_200.out; obtain ⟨hcz27_0, hcz27_1, hcz27_2, hcz27_3, hcz27_4, hcz27_5⟩ := cz6 BK200.out; obtain ⟨hfz27_0, hfz27_1, hfz27_2, hfz27_3, hfz27_4, hfz27_5⟩ := fz6 BK200.out; obtain ⟨Ao28, co28, eo28⟩ := Kd.R_slice HO193.out; subst eo28; obtain ⟨Ao29, co29, eo29⟩ := Kd.S_slice HO199.out; subst eo29) | ((with_reducible refine gate_callee (f := 18) rfl ?_); refine gL (some 18) Try.func18 #[.agg #[.slice Ao25 t188.length co25, .slice Ao28 t191.length co28, .int .i64 t194, .int .i64 t195, .int .i64 t196, .slice Ao29 t197.length co29]] ?_; (with_reducible refine (impl_Spare.calls _ _ t188 _ _ t191 t194 t195 t196 _ _ t197 t201 _ ?side1 ?side2 ?side3 ?side4 ?side5 ?side6 A10.out).mono ?_); (case side1 => refine (Kd.R_reads' (e := 5) (base := w.heap.size) (ok := fun k_ => ((some k_ ≠ (.slice Ao28 t191.length co28 : Value).ownBlock ∧ some k_ ≠ (.slice Ao18 t175.length co18 : Value).ownBlock) ∧ some k_ ≠ (.slice Ao19 t178.length co19 : Value).ownBlock)) (n := t188.length) (c := co25) ?_).2.2; exact (by (with_reducible repeat (first | apply Kd.R_alloc | apply Kd.R_drewN | apply Kd.R_drew)); exact (R_off (Kd.R_types HO190.out BK200.out (by decide)) TO))); (case side2 => exact (Kd.R_reads' HO190.out).2.1); (case side3 => refine (Kd.R_reads' (e := 5) (base := w.heap.size) (ok := fun k_ => ((some k_ ≠ (.slice Ao25 t188.length co25 : Value).ownBlock ∧ some k_ ≠ (.slice Ao18 t175.length co18 : Value).ownBlock) ∧ some k_ ≠ (.slice Ao19 t178.length co19 : Value).ownBlock)) (n := t191.length) (c := co28) ?_).2.2; exact (by (with_reducible repeat (first | apply Kd.R_alloc | apply Kd.R_drewN | apply Kd.R_drew)); exact (R_off (Kd.R_types HO193.out BK200.out (by decide)) TO))); (case side4 => exact (Kd.R_reads' HO193.out).2.1); (case side5 => refine (Kd.S_reads' (e := 55) (base := w.heap.size) (ok := fun k_ => ((((some k_ ≠ (.slice Ao25 t188.length co25 : Value).ownBlock ∧ some k_ ≠ (.slice Ao28 t191.length co28 : Value).ownBlock) ∧ some k_ ≠ (.slice Ao18 t175.length co18 : Value).ownBlock) ∧ some k_ ≠ (.slice Ao19 t178.length co19 : Value).ownBlock) ∧ some k_ ≠ (.slice Ao20 t184.length co20 : Value).ownBlock)) (n := t197.length) (c := co29) ?_).2.2; exact (by (with_reducible repeat (first | apply Kd.S_alloc | apply Kd.S_drewN | apply Kd.S_drew)); exact (S_off (Kd.S_types HO199.out BK200.out (by decide)) TO))); (case side6 => exact (Kd.S_reads' HO199.out).2.1); rintro e w30 ⟨rfl, hb⟩; refine ⟨_, rfl, ?_⟩; replace HO177 := aM (Kd.R_below (by (with_reducible repeat (first | apply Kd.R_alloc | apply Kd.R_drewN | apply Kd.R_drew)); exact (R_off (Kd.R_types HO177.out BK200.out (by decide)) TO)) hb); replace HO180 := aM (Kd.R_below (by (with_reducible repeat (first | apply Kd.R_alloc | apply Kd.R_drewN | apply Kd.R_drew)); exact (R_off (Kd.R_types HO180.out BK200.out (by decide)) TO)) hb); replace HO186 := aM (Kd.S_below (by (with_reducible repeat (first | apply Kd.S_alloc | apply Kd.S_drewN | apply Kd.S_drew)); exact (S_off (Kd.S_types HO186.out BK200.out (by decide)) TO)) hb); replace HO190 := aM (Kd.R_below (by (with_reducible repeat (first | apply Kd.R_alloc | apply Kd.R_drewN | apply Kd.R_drew)); exact (R_off (Kd.R_types HO190.out BK200.out (by decide)) TO)) hb); replace HO193 := aM (Kd.R_below (by (with_reducible repeat (first | apply Kd.R_alloc | apply Kd.R_drewN | apply Kd.R_drew)); exact (R_off (Kd.R_types HO193.out BK200.out (by decide)) TO)) hb); replace HO199 := aM (Kd.S_below (by (with_reducible repeat (first | apply Kd.S_alloc | apply Kd.S_drewN | apply Kd.S_drew)); exact (S_off (Kd.S_types HO199.out BK200.out (by decide)) TO)) hb); replace BK173 := aM (blk_below (g := gb173) (o := .cells #[.slice A0_0 l0_0.length c0_0, .slice A0_1 l0_1.length c0_1, .int .i64 a0_2, .int .i64 a0_3, .int .i64 a0_4, .slice A0_5 l0_5.length c0_5] 27 (0, 0)) (by (with_reducible repeat (first | refine blk_drewN ?_ _ | refine blk_drew ?_ | refine blk_alloc ?_ _)); refine blk_far ?_ NB173_200.out _; (with_reducible repeat (first | refine blk_drewN ?_ _ | refine blk_drew ?_ | refine blk_alloc ?_ _)); refine blk_far ?_ NB173_200.out _; (with_reducible repeat (first | refine blk_drewN ?_ _ | refine blk_drew ?_ | refine blk_alloc ?_ _)); refine blk_far ?_ NB173_200.out _; (with_reducible repeat (first | refine blk_drewN ?_ _ | refine blk_drew ?_ | refine blk_alloc ?_ _)); refine blk_far ?_ NB173_200.out _; (with_reducible repeat (first | refine blk_drewN ?_ _ | refine blk_drew ?_ | refine blk_alloc ?_ _)); refine blk_far ?_ NB173_200.out _; (with_reducible repeat (first | refine blk_drewN ?_ _ | refine blk_drew ?_ | refine blk_alloc ?_ _)); refine blk_far ?_ NB173_200.out _; (with_reducible repeat (first | refine blk_drewN ?_ _ | refine blk_drew ?_ | refine blk_alloc ?_ _)); exact BK173.out) hb); replace BK200 := aM (blk_below (g := gb200) (o := .cells #[.slice Ao25 t188.length co25, .slice Ao28 t191.length co28, .int .i64 t194, .int .i64 t195, .int .i64 t196, .slice Ao29 t197.length co29] 33 (0, 0)) (by (with_reducible repeat (first | refine blk_drewN ?_ _ | refine blk_drew ?_ | refine blk_alloc ?_ _)); refine blk_put (cs := #[.slice Ao25 t188.length co25, .slice Ao28 t191.length co28, .int .i64 t194, .int .i64 t195, .int .i64 t196, .slice none 0 0]) ?_ 5 _ rfl; (with_reducible repeat (first | refine blk_drewN ?_ _ | refine blk_drew ?_ | refine blk_alloc ?_ _)); refine blk_put (cs := #[.slice Ao25 t188.length co25, .slice Ao28 t191.length co28, .int .i64 t194, .int .i64 t195, .int .i64 0, .slice none 0 0]) ?_ 4 _ rfl; (with_reducible repeat (first | refine blk_drewN ?_ _ | refine blk_drew ?_ | refine blk_alloc ?_ _)); refine blk_put (cs := #[.slice Ao25 t188.length co25, .slice Ao28 t191.length co28, .int .i64 t194, .int .i64 0, .int .i64 0, .slice none 0 0]) ?_ 3 _ rfl; (with_reducible repeat (first | refine blk_drewN ?_ _ | refine blk_drew ?_ | refine blk_alloc ?_ _)); refine blk_put (cs := #[.slice Ao25 t188.length co25, .slice Ao28 t191.length co28, .int .i64 0, .int .i64 0, .int .i64 0, .slice none 0 0]) ?_ 2 _ rfl; (with_reducible repeat (first | refine blk_drewN ?_ _ | refine blk_drew ?_ | refine blk_alloc ?_ _)); refine blk_put (cs := #[.slice Ao25 t188.length co25, .slice none 0 0, .int .i64 0, .int .i64 0, .int .i64 0, .slice none 0 0]) ?_ 1 _ rfl; (with_reducible repeat (first | refine blk_drewN ?_ _ | refine blk_drew ?_ | refine blk_alloc ?_ _)); refine blk_put (cs := #[.slice none 0 0, .slice none 0 0, .int .i64 0, .int .i64 0, .int .i64 0, .slice none 0 0]) ?_ 0 _ rfl; (with_reducible repeat (first | refine blk_drewN ?_ _ | refine blk_drew ?_ | refine blk_alloc ?_ _)); exact BK200.out) hb); replace HB := aM (below_step TB hb); clear hb))
    replace HO177 := aM (Kd.R_drew HO177.out)
    replace HO180 := aM (Kd.R_drew HO180.out)
    replace HO186 := aM (Kd.S_drew HO186.out)
    replace HO190 := aM (Kd.R_drew HO190.out)
    replace HO193 := aM (Kd.R_drew HO193.out)
    replace HO199 := aM (Kd.S_drew HO199.out)
    replace BK173 := aM (blk_drew BK173.out)
    replace BK200 := aM (blk_drew BK200.out)
    replace HB := aM (below_drew1 HB.out)
    refine start_ (n := 5) (S := fun w' => w'.cell? ⟨gb200, 0, none⟩ = some (.slice Ao25 t188.length co25) ∧ w'.cell? ⟨gb200, 1, none⟩ = some (.slice Ao28 t191.length co28) ∧ w'.cell? ⟨gb200, 2, none⟩ = some (.int .i64 t194) ∧ w'.cell? ⟨gb200, 3, none⟩ = some (.int .i64 t195) ∧ w'.cell? ⟨gb200, 4, none⟩ = some (.int .i64 t196) ∧ w'.cell? ⟨gb200, 5, none⟩ = some (.slice Ao29 t197.length co29) ∧ w'.cell? ⟨gb173, 0, none⟩ = some (.slice A0_0 l0_0.length c0_0) ∧ w'.cell? ⟨gb173, 1, none⟩ = some (.slice A0_1 l0_1.length c0_1) ∧ w'.cell? ⟨gb173, 2, none⟩ = some (.int .i64 a0_2) ∧ w'.cell? ⟨gb173, 3, none⟩ = some (.int .i64 a0_3) ∧ w'.cell? ⟨gb173, 4, none⟩ = some (.int .i64 a0_4) ∧ w'.cell? ⟨gb173, 5, none⟩ = some (.slice A0_5 l0_5.length c0_5)) (ds := []) (Array.replicate 5 false) (by kernel_rfl) rfl rfl ⟨(blk_cell BK200.out 0).trans rfl, (blk_cell BK200.out 1).trans rfl, (blk_cell BK200.out 2).trans rfl, (blk_cell BK200.out 3).trans rfl, (blk_cell BK200.out 4).trans rfl, (blk_cell BK200.out 5).trans rfl, (blk_cell BK173.out 0).trans rfl, (blk_cell BK173.out 1).trans rfl, (blk_cell BK173.out 2).trans rfl, (blk_cell BK173.out 3).trans rfl, (blk_cell BK173.out 4).trans rfl, (blk_cell BK173.out 5).trans rfl⟩ (fun hHeld => ?_)
    generalize w30.drew = w31 at HO177 HO180 HO186 HO190 HO193 HO199 BK173 BK200 HB hHeld ⊢
    refine pT 0 (some 22) ?_
    refine pT 1 (some 23) ?_
    refine pO 2 (some 24) (fun K hK => ?_)
    refine gG Try.func17 #[.agg #[.slice A0_0 l0_0.length c0_0, .slice A0_1 l0_1.length c0_1, .int .i64 a0_2, .int .i64 a0_3, .int .i64 a0_4, .slice A0_5 l0_5.length c0_5]] ?_
    with_reducible refine (laws_toDisk.calls k _ _ l0_0 _ _ l0_1 a0_2 a0_3 a0_4 _ _ l0_5 t202 t205 t208 t209 t210 t211 _ ?side1 ?side2 ?side3 ?side4 ?side5 ?side6 A12.out).mono ?_
    (case side1 => have X_ := (Kd.C_below HR0_0.out HB.out); exact TC)
    (case side2 => exact HC0_0.out)
    (case side3 => have X_ := (Kd.C_below HR0_1.out HB.out); exact TC)
    (case side4 => exact HC0_1.out)
    (case side5 => have X_ := (Kd.C_below HR0_5.out HB.out); exact TC)
    (case side6 => exact HC0_5.out)
    rintro e w32 ⟨v203, v206, v212, rfl, ho0, ho1, ho2, hb⟩
    refine ⟨_, rfl, ?_⟩
    have n0_ := aM (Kd.R_mono (Kd.R_told (Kd.R_told (Kd.R_old (by have X_ := HO177.out; exact TR) hb) (Kd.R_base ho0)) (Kd.R_base ho1)) (fun _ h_ => h_.1))
    have n1_ := aM (Kd.R_mono (Kd.R_told (Kd.R_told (Kd.R_old (by have X_ := HO180.out; exact TR) hb) (Kd.R_base ho0)) (Kd.R_base ho1)) (fun _ h_ => h_.1))
    have n2_ := aM (Kd.S_mono (Kd.S_told (Kd.S_told (Kd.S_told (Kd.S_old (by have X_ := HO186.out; exact TS) hb) (Kd.R_base ho0)) (Kd.R_base ho1)) (Kd.S_base ho2)) (fun _ h_ => h_.1))
    have n3_ := aM (Kd.R_mono (Kd.R_told (Kd.R_told (Kd.R_old (by have X_ := HO190.out; exact TR) hb) (Kd.R_base ho0)) (Kd.R_base ho1)) (fun _ h_ => h_.1))
    have n4_ := aM (Kd.R_mono (Kd.R_told (Kd.R_told (Kd.R_old (by have X_ := HO193.out; exact TR) hb) (Kd.R_base ho0)) (Kd.R_base ho1)) (fun _ h_ => h_.1))
    have n5_ := aM (Kd.S_mono (Kd.S_told (Kd.S_told (Kd.S_told (Kd.S_old (by have X_ := HO199.out; exact TS) hb) (Kd.R_base ho0)) (Kd.R_base ho1)) (Kd.S_base ho2)) (fun _ h_ => h_.1))
    have n6_ := aM (Kd.R_lower (Kd.R_new' (Kd.R_new' (Kd.R_new' (Kd.R_new' ho0 (Kd.R_lt (by have X_ := HO177.out; exact TR))) (Kd.R_lt (by have X_ := HO180.out; exact TR))) (Kd.R_lt (by have X_ := HO190.out; exact TR))) (Kd.R_lt (by have X_ := HO193.out; exact TR))) (below_size TB))
    have n7_ := aM (Kd.R_lower (Kd.R_new' (Kd.R_new' (Kd.R_new' (Kd.R_new' ho1 (Kd.R_lt (by have X_ := HO177.out; exact TR))) (Kd.R_lt (by have X_ := HO180.out; exact TR))) (Kd.R_lt (by have X_ := HO190.out; exact TR))) (Kd.R_lt (by have X_ := HO193.out; exact TR))) (below_size TB))
    have n8_ := aM (Kd.S_lower (Kd.S_new' (Kd.S_new' (Kd.S_new' (Kd.S_new' (Kd.S_new' (Kd.S_new' ho2 (Kd.R_lt (by have X_ := HO177.out; exact TR))) (Kd.R_lt (by have X_ := HO180.out; exact TR))) (Kd.S_lt (by have X_ := HO186.out; exact TS))) (Kd.R_lt (by have X_ := HO190.out; exact TR))) (Kd.R_lt (by have X_ := HO193.out; exact TR))) (Kd.S_lt (by have X_ := HO199.out; exact TS))) (below_size TB))
    have n9_ := aM (blk_below (by have X_ := BK173.out; exact TX) hb)
    have n10_ := aM (blk_below (by have X_ := BK200.out; exact TX) hb)
    have n11_ := aM (below_step TB hb)
    clear HO177
    clear HO180
    clear HO186
    clear HO190
    clear HO193
    clear HO199
    clear BK173
    clear BK200
    clear HB
    have HO177 := n0_
    have HO180 := n1_
    have HO186 := n2_
    have HO190 := n3_
    have HO193 := n4_
    have HO199 := n5_
    have HO204 := n6_
    have HO207 := n7_
    have HO213 := n8_
    have BK173 := n9_
    have BK200 := n10_
    have HB := n11_
    clear n0_ n1_ n2_ n3_ n4_ n5_ n6_ n7_ n8_ n9_ n10_ n11_
    (try clear hb)
    (try clear hb2)
    (try clear hk)
    (try clear hi)
    (try clear ho0)
    (try clear ho1)
    (try clear ho2)
    obtain ⟨Ao33, co33, eo33⟩ := Kd.R_slice HO204.out
    (first | subst eo33 | (injection eo33 with f1_ f2_ f3_; have f4_ := f1_.symm; have f5_ := f3_.symm; clear f1_ f2_ f3_; subst f4_; subst f5_))
    obtain ⟨Ao34, co34, eo34⟩ := Kd.R_slice HO207.out
    (first | subst eo34 | (injection eo34 with f1_ f2_ f3_; have f4_ := f1_.symm; have f5_ := f3_.symm; clear f1_ f2_ f3_; subst f4_; subst f5_))
    obtain ⟨Ao35, co35, eo35⟩ := Kd.S_slice HO213.out
    (first | subst eo35 | (injection eo35 with f1_ f2_ f3_; have f4_ := f1_.symm; have f5_ := f3_.symm; clear f1_ f2_ f3_; subst f4_; subst f5_))
    refine hK.out _ _ ⟨(blk_cell BK200.out 0).trans rfl, (blk_cell BK200.out 1).trans rfl, (blk_cell BK200.out 2).trans rfl, (blk_cell BK200.out 3).trans rfl, (blk_cell BK200.out 4).trans rfl, (blk_cell BK200.out 5).trans rfl, (blk_cell BK173.out 0).trans rfl, (blk_cell BK173.out 1).trans rfl, (blk_cell BK173.out 2).trans rfl, (blk_cell BK173.out 3).trans rfl, (blk_cell BK173.out 4).trans rfl, (blk_cell BK173.out 5).trans rfl⟩ (fun hHeld => ?_)
    clear hK K
    refine nR ?_
    refine pO 3 (some 25) (fun K hK => ?_)
    refine gG Try.func19 #[.agg #[.slice Ao25 t188.length co25, .slice Ao28 t191.length co28, .int .i64 t194, .int .i64 t195, .int .i64 t196, .slice Ao29 t197.length co29], .agg #[.slice Ao33 t202.length co33, .slice Ao34 t205.length co34, .int .i64 t208, .int .i64 t209, .int .i64 t210, .slice Ao35 t211.length co35]] ?_
    with_reducible refine (laws_eqDisk.calls k _ _ t188 _ _ t191 t194 t195 t196 _ _ t197 _ _ t202 _ _ t205 t208 t209 t210 _ _ t211 true _ ?side1 ?side2 ?side3 ?side4 ?side5 ?side6 ?side7 ?side8 ?side9 ?side10 ?side11 ?side12 A13.out).mono ?_
    (case side1 => have X_ := (Kd.R_reads' HO190.out).2.2; exact TC)
    (case side2 => exact (Kd.R_reads' HO190.out).2.1)
    (case side3 => have X_ := (Kd.R_reads' HO193.out).2.2; exact TC)
    (case side4 => exact (Kd.R_reads' HO193.out).2.1)
    (case side5 => have X_ := (Kd.S_reads' HO199.out).2.2; exact TC)
    (case side6 => exact (Kd.S_reads' HO199.out).2.1)
    (case side7 => have X_ := (Kd.R_reads' HO204.out).2.2; exact TC)
    (case side8 => exact (Kd.R_reads' HO204.out).2.1)
    (case side9 => have X_ := (Kd.R_reads' HO207.out).2.2; exact TC)
    (case side10 => exact (Kd.R_reads' HO207.out).2.1)
    (case side11 => have X_ := (Kd.S_reads' HO213.out).2.2; exact TC)
    (case side12 => exact (Kd.S_reads' HO213.out).2.1)
    rintro e w36 ⟨rfl, hb⟩
    refine ⟨_, rfl, ?_⟩
    have n0_ := aM (Kd.R_below (by have X_ := HO177.out; exact TR) hb)
    have n1_ := aM (Kd.R_below (by have X_ := HO180.out; exact TR) hb)
    have n2_ := aM (Kd.S_below (by have X_ := HO186.out; exact TS) hb)
    have n3_ := aM (Kd.R_below (by have X_ := HO190.out; exact TR) hb)
    have n4_ := aM (Kd.R_below (by have X_ := HO193.out; exact TR) hb)
    have n5_ := aM (Kd.S_below (by have X_ := HO199.out; exact TS) hb)
    have n6_ := aM (Kd.R_below (by have X_ := HO204.out; exact TR) hb)
    have n7_ := aM (Kd.R_below (by have X_ := HO207.out; exact TR) hb)
    have n8_ := aM (Kd.S_below (by have X_ := HO213.out; exact TS) hb)
    have n9_ := aM (blk_below (by have X_ := BK173.out; exact TX) hb)
    have n10_ := aM (blk_below (by have X_ := BK200.out; exact TX) hb)
    have n11_ := aM (below_step TB hb)
    clear HO177
    clear HO180
    clear HO186
    clear HO190
    clear HO193
    clear HO199
    clear HO204
    clear HO207
    clear HO213
    clear BK173
    clear BK200
    clear HB
    have HO177 := n0_
    have HO180 := n1_
    have HO186 := n2_
    have HO190 := n3_
    have HO193 := n4_
    have HO199 := n5_
    have HO204 := n6_
    have HO207 := n7_
    have HO213 := n8_
    have BK173 := n9_
    have BK200 := n10_
    have HB := n11_
    clear n0_ n1_ n2_ n3_ n4_ n5_ n6_ n7_ n8_ n9_ n10_ n11_
    (try clear hb)
    (try clear hb2)
    (try clear hk)
    (try clear hi)
    refine hK.out _ _ ⟨(blk_cell BK200.out 0).trans rfl, (blk_cell BK200.out 1).trans rfl, (blk_cell BK200.out 2).trans rfl, (blk_cell BK200.out 3).trans rfl, (blk_cell BK200.out 4).trans rfl, (blk_cell BK200.out 5).trans rfl, (blk_cell BK173.out 0).trans rfl, (blk_cell BK173.out 1).trans rfl, (blk_cell BK173.out 2).trans rfl, (blk_cell BK173.out 3).trans rfl, (blk_cell BK173.out 4).trans rfl, (blk_cell BK173.out 5).trans rfl⟩ (fun hHeld => ?_)
    clear hK K
    refine nR ?_
    refine pP 4 (some 26) ?_
    refine done_ (by kernel_rfl) ?_
    try go_wp2
    go_ret
    exact ⟨by first | rfl | (simp [errW_none, errW_some] <;> rfl) | (simp [*, errW_none, errW_some] <;> rfl), TB⟩

end Go.Proofs.Ytogilihkphjjbaa.Q
