/- Functions of the program as plain Lean functions, and that a call of each comes to what its function tells. Written by a program of this seat. -/
import Derived.Test.YtaofakpljnkplaaQ0
import Derived.Test.YtaofakpljnkplaaQ3
import Derived.Test.YtaofakpljnkplaaQ4
import Derived.Test.YtaofakpljnkplaaQ17
namespace Go.Proofs.Ytaofakpljnkplaa.Q
open Go.RowKit Go.Proofs.YtaofakpljnkplaaW.PrintWords Go.Proofs.YtaofakpljnkplaaW.PrintLast Go.Proofs.YtaofakpljnkplaaW.PrintMore
attribute [local go_sem] min2_int min_two
set_option linter.unusedVariables false
set_option linter.unusedSimpArgs false

def spec_DrawCommit.f (k : Nat) (l0 : List Int) : Option (List Int × List Int × Int × Int) := (spec_l1New.f k l0).bind fun bt432 => ((spec_l6Image.f k bt432.1 bt432.2.1 bt432.2.2).bind fun bt436 => ((spec_l7Old.f k bt432.1 bt436.2.1 bt436.2.2 bt436.1).bind fun bt441 => ((spec_l1Below.f bt432.1 bt441.2.1 bt441.2.2 5).bind fun bt446 => ((spec_l1Below.f bt432.1 bt446.2.1 bt446.2.2 5).bind fun bt449 => (some (bt441.1, bt436.1, wrap64 (2 + bt446.1), bt449.1))))))
theorem spec_DrawCommit.mono : ∀ a0 k, LeO (spec_DrawCommit.f k a0) (spec_DrawCommit.f (k + 1) a0) := by
  intro a0 k;have m0_ := @spec_l1New.mono;have m1_ := @spec_l6Image.mono;have m2_ := @spec_l7Old.mono;unfold spec_DrawCommit.f;exact LM
set_option maxHeartbeats 40000000 in
set_option maxRecDepth 100000 in
theorem spec_DrawCommit.calls {k : Nat} {A0 : Option Addr} {c0 : Nat} {l0 : List Int} {r1 : List Int} {r2 : List Int} {r3 : Int} {r4 : Int} {w : World} (hr0 : Kd.C (Kd.int .u8) w A0 l0.length l0) (hc0 : l0.length ≤ c0) (h : spec_DrawCommit.f k l0 = some (r1, r2, r3, r4)) :
    Calls Try.prog 16 #[.slice A0 l0.length c0] w fun e w' => ∃ v0_ v1_ : Value, e = .returned (.tuple #[v0_, v1_, .int .i64 r3, .int .i64 r4]) ∧ Kd.R (Kd.int .u8) 5 w' w.heap.size (fun k_ => some k_ ≠ (v1_ : Value).ownBlock) v0_ r1 ∧ Kd.R (Kd.int .u8) 5 w' w.heap.size (fun k_ => some k_ ≠ (v0_ : Value).ownBlock) v1_ r2 ∧ Below w.heap.size w w' := by
  have HR0 := aM hr0
  have HC0 := aM hc0
  clear hr0 hc0
  have HB := aM (Below.refl w.heap.size w)
  have H := h
  clear h
  unfold spec_DrawCommit.f at H
  replace H := bE H
  obtain ⟨⟨t432, t433, t434⟩, A2, H⟩ := H
  dsimp only at H
  replace H := bE H
  obtain ⟨⟨t436, t439, t440⟩, A3, H⟩ := H
  dsimp only at H
  replace H := bE H
  obtain ⟨⟨t441, t444, t445⟩, A4, H⟩ := H
  dsimp only at H
  replace H := bE H
  obtain ⟨⟨t446, t447, t448⟩, A5, H⟩ := H
  dsimp only at H
  replace H := bE H
  obtain ⟨⟨t449, t450, t451⟩, A6, H⟩ := H
  dsimp only at H
  simp only [Option.some.injEq, Prod.mk.injEq] at H
  obtain ⟨rfl, rfl, rfl, rfl⟩ := H
  go_enter Try.func16, Try.ntmps16
  go_wp2_with (first | ((with_reducible refine gate_callee (f := 28) rfl ?_); refine gL (some 10) Try.func28 #[.slice A0 l0.length c0] ?_; (with_reducible refine (spec_l1New.calls w _ ?side1 ?side2 ?side3 A2.out).mono ?_); (case side1 => exact TB); (case side2 => exact HR0.out); (case side3 => exact HC0.out); rintro e w7 ⟨g435, rfl, hi, hb, hb2⟩; refine ⟨_, rfl, ?_⟩; have HI435 := aM (hi); replace HB := aM (hb); clear hi hb hb2) | ((with_reducible refine gate_callee (f := 29) rfl ?_); refine gL (some 12) Try.func29 #[.pointer (some ⟨g435, 0, none⟩)] ?_; (with_reducible refine (spec_l6Image.calls w _ ?side1 ?side2 A3.out).mono ?_); (case side1 => exact TI90 HI435); (case side2 => exact TG90 HB HI435); rintro e w8 ⟨v437, rfl, ho0, hi, hb, hk⟩; refine ⟨_, rfl, ?_⟩; have HO438 := aM (Kd.R_lower ho0 (below_size (TG90 HB HI435))); replace HB := aM (hb); replace HI435 := aM (hi); (try clear hb); (try clear hb2); (try clear hk); (try clear hi); (try clear ho0); obtain ⟨Ao9, co9, eo9⟩ := Kd.R_slice HO438.out; subst eo9) | ((with_reducible refine gate_callee (f := 44) rfl ?_); refine gL (some 15) Try.func44 #[.pointer (some ⟨g435, 0, none⟩), .slice Ao9 t436.length co9] ?_; (with_reducible refine (spec_l7Old.calls w _ ?side1 ?side2 ?side3 ?side4 ?side5 A4.out).mono ?_); (case side1 => exact TI90 HI435); (case side2 => exact TG90 HB HI435); (case side3 => have X_ := (Kd.R_reads' HO438.out).2.2; exact TC); (case side4 => exact (Kd.R_reads' HO438.out).2.1); (case side5 => exact far_slice (IsS90.own_ne HI435.out HO438.out (by decide))); rintro e w10 ⟨v442, rfl, ho0, hi, hb, hk⟩; refine ⟨_, rfl, ?_⟩; have HO443 := aM (Kd.R_lower (Kd.R_new' ho0 (Kd.R_lt (TRf HO438))) (below_size (TG90 HB HI435))); replace HO438 := aM (Kd.R_mono (Kd.R_told (Kd.R_oldK (IsS90.apart (show IsS90 w _ g435 t432 t439 t440 from TI90 HI435) (TRf HO438) (by decide)) hk) (Kd.R_base ho0)) (fun _ h_ => h_.1)); replace HB := aM (hb); replace HI435 := aM (hi); (try clear hb); (try clear hb2); (try clear hk); (try clear hi); (try clear ho0)) | ((with_reducible refine gate_callee (f := 30) rfl ?_); refine gL (some 19) Try.func30 #[.pointer (some ⟨g435, 0, none⟩), .int .i64 5] ?_; (with_reducible refine (spec_l1Below.calls w _ ?side1 ?side2 A5.out).mono ?_); (case side1 => exact TI90 HI435); (case side2 => exact TG90 HB HI435); rintro e w11 ⟨rfl, hi, hb, hk⟩; refine ⟨_, rfl, ?_⟩; replace HO438 := aM (Kd.R_mono (Kd.R_keep (IsS90.apart (show IsS90 w _ g435 t432 t444 t445 from TI90 HI435) (TRf HO438) (by decide)) hk (fun _ h => h.2)) (fun _ h => h.1)); replace HO443 := aM (Kd.R_mono (Kd.R_keep (IsS90.apart (show IsS90 w _ g435 t432 t444 t445 from TI90 HI435) (TRf HO443) (by decide)) hk (fun _ h => h.2)) (fun _ h => h.1)); replace HB := aM (hb); replace HI435 := aM (hi); (try clear hb); (try clear hb2); (try clear hk); (try clear hi)) | ((with_reducible refine gate_callee (f := 30) rfl ?_); refine gL (some 22) Try.func30 #[.pointer (some ⟨g435, 0, none⟩), .int .i64 5] ?_; (with_reducible refine (spec_l1Below.calls w _ ?side1 ?side2 A6.out).mono ?_); (case side1 => exact TI90 HI435); (case side2 => exact TG90 HB HI435); rintro e w12 ⟨rfl, hi, hb, hk⟩; refine ⟨_, rfl, ?_⟩; replace HO438 := aM (Kd.R_mono (Kd.R_keep (IsS90.apart (show IsS90 w _ g435 t432 t447 t448 from TI90 HI435) (TRf HO438) (by decide)) hk (fun _ h => h.2)) (fun _ h => h.1)); replace HO443 := aM (Kd.R_mono (Kd.R_keep (IsS90.apart (show IsS90 w _ g435 t432 t447 t448 from TI90 HI435) (TRf HO443) (by decide)) hk (fun _ h => h.2)) (fun _ h => h.1)); replace HB := aM (hb); replace HI435 := aM (hi); (try clear hb); (try clear hb2); (try clear hk); (try clear hi)))
  refine bodyPost_ret (results_list (rs := [.tmp 2, .tmp 3, .tmp 4, .tmp 5]) rfl (by simp) (.tmp (.tmp (.tmp (.tmp .nil))))) rfl ?_
  exact ⟨_, _, TE, by (with_reducible repeat (first | apply Kd.R_alloc | apply Kd.R_drewN | apply Kd.R_drew)); exact Kd.R_mono HO443.out (fun _ hk => hk.2), by (with_reducible repeat (first | apply Kd.R_alloc | apply Kd.R_drewN | apply Kd.R_drew)); exact Kd.R_mono HO438.out (fun _ hk => hk.2), TG90 HB HI435⟩

def impl_isGen.f (a0 : Int) : Option (Bool) := (impl_within.f a0 0 1000000).bind fun t452 => (some t452)
set_option maxHeartbeats 40000000 in
set_option maxRecDepth 100000 in
theorem impl_isGen.calls {a0 : Int} {r : Bool} {w : World} (h : impl_isGen.f a0 = some r) :
    Calls Try.prog 45 #[.int .i64 a0] w fun e w' => e = .returned (.bool r) ∧ Drawn0 w w' := by
  have H := h
  clear h
  unfold impl_isGen.f at H
  replace H := bE H
  obtain ⟨t452, A2, H⟩ := H
  obtain rfl := o_I H
  go_enter Try.func45, Try.ntmps45
  go_wp2_with (first | ((with_reducible refine gate_callee (f := 31) rfl ?_); refine gL (some 4) Try.func31 #[.int .i64 a0, .int .i64 0, .int .i64 1000000] ?_; (with_reducible refine (impl_within.calls A2.out).mono ?_); rintro e w' ⟨rfl, ⟨nd, rfl⟩⟩; refine ⟨_, rfl, ?_⟩))
  go_ret
  exact ⟨by first | rfl | (simp; done) | (simp [*]; done), TD⟩

def impl_DiskNew.f (a0 : Int) (l1 : List Int) : Option (List Int × List Int × Int × Int × Int × (List (S104))) := (impl_isGen.f a0).bind fun t454 => (if t454 = true then (if (l1.length : Int) > 240 then (some (([] : List Int), ([] : List Int), 0, 0, 0, ([] : List (S104)))) else ((impl_cloned.f l1).bind fun t455 => (some (t455, ([] : List Int), a0, 0, (l1.length : Int), ([] : List (S104)))))) else (some (([] : List Int), ([] : List Int), 0, 0, 0, ([] : List (S104)))))
set_option maxHeartbeats 40000000 in
set_option maxRecDepth 100000 in
theorem impl_DiskNew.calls {a0 : Int} {A1 : Option Addr} {c1 : Nat} {l1 : List Int} {r1 : List Int} {r2 : List Int} {r3 : Int} {r4 : Int} {r5 : Int} {r6 : List (S104)} {w : World} (hr1 : Kd.C (Kd.int .u8) w A1 l1.length l1) (hc1 : l1.length ≤ c1) (h : impl_DiskNew.f a0 l1 = some (r1, r2, r3, r4, r5, r6)) :
    Calls Try.prog 17 #[.int .i64 a0, .slice A1 l1.length c1] w fun e w' => ∃ v0_ v1_ v5_ : Value, e = .returned (.agg #[v0_, v1_, .int .i64 r3, .int .i64 r4, .int .i64 r5, v5_]) ∧ Kd.R (Kd.int .u8) 5 w' w.heap.size (fun k_ => some k_ ≠ (v1_ : Value).ownBlock) v0_ r1 ∧ Kd.R (Kd.int .u8) 5 w' w.heap.size (fun k_ => some k_ ≠ (v0_ : Value).ownBlock) v1_ r2 ∧ Kd.S k104 104 w' w.heap.size (fun k_ => some k_ ≠ (v0_ : Value).ownBlock ∧ some k_ ≠ (v1_ : Value).ownBlock) v5_ r6 ∧ Below w.heap.size w w' := by
  have hu47 := Try.underlying47
  have hu44 := Try.underlying44
  have HR1 := aM hr1
  have HC1 := aM hc1
  clear hr1 hc1
  have HB := aM (Below.refl w.heap.size w)
  have H := h
  clear h
  unfold impl_DiskNew.f at H
  replace H := bE H
  obtain ⟨t454, A3, H⟩ := H
  go_enter Try.func17, Try.ntmps17
  go_wp2_with (first | ((with_reducible refine gate_dst (N := 4) rfl ?_); (try (refine gate_guard (by rfl) ?_; dsimp only)); refine gBx 4 #[.slice none 0 0, .slice none 0 0, .int .i64 0, .int .i64 0, .int .i64 0, .slice none 0 0] 47 ?_; intro gb453 hg w5 hbox hb; have BK453 := aM (hbox); have GW453 := gW HB hg; have GE453 := gW HB hg; replace HB := bS HB hb; clear hb hbox hg) | ((with_reducible refine gate_callee (f := 45) rfl ?_); refine gL (some 6) Try.func45 #[.int .i64 a0] ?_; (with_reducible refine (impl_isGen.calls A3.out).mono ?_); rintro e w' ⟨rfl, ⟨nd, rfl⟩⟩; refine ⟨_, rfl, ?_⟩) | ((with_reducible refine gate_dst (N := 7) rfl ?_); generalize hG_ : wpList _ _ _ _ _ _ = G_))
  subst hG_
  by_cases c6 : t454 = true
  · subst c6
    replace H := ifT H
    by_cases c7 : (l1.length : Int) > 240
    · rw [if_pos c7] at H
      have c7b0 : decide (240 < (l1.length : Int)) = true := decide_eq_true c7
      have c7b1 : decide (240 < l1.length) = true := decide_eq_true (by omega)
      clear c7
      simp only [Option.some.injEq, Prod.mk.injEq] at H
      obtain ⟨rfl, rfl, rfl, rfl, rfl, rfl⟩ := H
      obtain ⟨hcz8_0, hcz8_1, hcz8_2, hcz8_3, hcz8_4, hcz8_5⟩ := cz6 BK453.out
      obtain ⟨hfz8_0, hfz8_1, hfz8_2, hfz8_3, hfz8_4, hfz8_5⟩ := fz6 BK453.out
      go_wp2
      refine bodyPost_ret (results_cell_row rfl _ _ gb453 47 #[.slice none 0 0, .slice none 0 0, .int .i64 0, .int .i64 0, .int .i64 0, .slice none 0 0] (0, 0) _ rfl (blk_put (blk_put (blk_put (blk_put (blk_put (blk_put (cs := #[.slice none 0 0, .slice none 0 0, .int .i64 0, .int .i64 0, .int .i64 0, .slice none 0 0]) (TZ BK453) 0 _ rfl) 1 _ rfl) 2 _ rfl) 3 _ rfl) 4 _ rfl) 5 _ rfl) Try.underlying47 rfl (by kernel_rfl)) rfl ?_
      exact ⟨_, _, _, TE, by first | exact Kd.R_nil _ _ _ _ _ | exact Kd.N_nil _ _ _ _ _ | exact Kd.V_nil _ _ _ _ _ | exact Kd.Q_nil _ _ _ _ _ | exact Kd.S_nil _ _ _ _ _, by first | exact Kd.R_nil _ _ _ _ _ | exact Kd.N_nil _ _ _ _ _ | exact Kd.V_nil _ _ _ _ _ | exact Kd.Q_nil _ _ _ _ _ | exact Kd.S_nil _ _ _ _ _, by first | exact Kd.S_nil _ _ _ _ _ | exact Kd.N_nil _ _ _ _ _ | exact Kd.V_nil _ _ _ _ _ | exact Kd.Q_nil _ _ _ _ _ | exact Kd.R_nil _ _ _ _ _, TB⟩
    · rw [if_neg c7] at H
      have c7b0 : decide (240 < (l1.length : Int)) = false := decide_eq_false c7
      have c7b1 : decide (240 < l1.length) = false := decide_eq_false (by omega)
      clear c7
      replace H := bE H
      obtain ⟨t455, A9, H⟩ := H
      simp only [Option.some.injEq, Prod.mk.injEq] at H
      obtain ⟨rfl, rfl, rfl, rfl, rfl, rfl⟩ := H
      go_wp2_with (first | ((with_reducible refine gate_callee (f := 46) rfl ?_); refine gL (some 15) Try.func46 #[.slice A1 l1.length c1] ?_; (with_reducible refine (impl_cloned.calls ?side1 ?side2 A9.out).mono ?_); (case side1 => repeat (first | exact (Kd.C_below HR1.out TB) | (with_reducible refine Kd.C_alloc ?_ _) | (with_reducible refine Kd.C_drewN ?_ _) | (with_reducible refine Kd.C_drew ?_))); (case side2 => exact HC1.out); rintro e w10 ⟨v456, rfl, ho0, hb⟩; refine ⟨_, rfl, ?_⟩; have HO457 := aM (Kd.R_lower ho0 (below_size TB)); replace BK453 := mB BK453 hb; replace HB := bS HB hb; clear ho0 hb; obtain ⟨Ao11, co11, eo11⟩ := Kd.R_slice HO457.out; subst eo11; obtain ⟨hcz12_0, hcz12_1, hcz12_2, hcz12_3, hcz12_4, hcz12_5⟩ := cz6 BK453.out; obtain ⟨hfz12_0, hfz12_1, hfz12_2, hfz12_3, hfz12_4, hfz12_5⟩ := fz6 BK453.out))
      refine bodyPost_ret (results_cell_row rfl _ _ gb453 47 #[.slice Ao11 t455.length co11, .slice none 0 0, .int .i64 a0, .int .i64 0, .int .i64 (l1.length : Int), .slice none 0 0] (0, 0) _ rfl (blk_put (blk_put (blk_put (blk_put (blk_put (blk_put (cs := #[.slice none 0 0, .slice none 0 0, .int .i64 0, .int .i64 0, .int .i64 0, .slice none 0 0]) (TZ BK453) 0 _ rfl) 1 _ rfl) 2 _ rfl) 3 _ rfl) 4 _ rfl) 5 _ rfl) Try.underlying47 rfl (by kernel_rfl)) rfl ?_
      exact ⟨_, _, _, TE, by (with_reducible repeat (first | apply Kd.R_alloc | apply Kd.R_drewN | apply Kd.R_drew)); exact Kd.R_mono (RK1 (Kd.R_types HO457.out BK453.out (by decide))) (fun _ hk => (by simp [Value.ownBlock])), by first | exact Kd.R_nil _ _ _ _ _ | exact Kd.N_nil _ _ _ _ _ | exact Kd.V_nil _ _ _ _ _ | exact Kd.Q_nil _ _ _ _ _ | exact Kd.S_nil _ _ _ _ _, by first | exact Kd.S_nil _ _ _ _ _ | exact Kd.N_nil _ _ _ _ _ | exact Kd.V_nil _ _ _ _ _ | exact Kd.Q_nil _ _ _ _ _ | exact Kd.R_nil _ _ _ _ _, TB⟩
  · replace c6 := b_F c6
    subst c6
    replace H := ifF H
    simp only [Option.some.injEq, Prod.mk.injEq] at H
    obtain ⟨rfl, rfl, rfl, rfl, rfl, rfl⟩ := H
    obtain ⟨hcz13_0, hcz13_1, hcz13_2, hcz13_3, hcz13_4, hcz13_5⟩ := cz6 BK453.out
    obtain ⟨hfz13_0, hfz13_1, hfz13_2, hfz13_3, hfz13_4, hfz13_5⟩ := fz6 BK453.out
    go_wp2
    refine bodyPost_ret (results_cell_row rfl _ _ gb453 47 #[.slice none 0 0, .slice none 0 0, .int .i64 0, .int .i64 0, .int .i64 0, .slice none 0 0] (0, 0) _ rfl (blk_put (blk_put (blk_put (blk_put (blk_put (blk_put (cs := #[.slice none 0 0, .slice none 0 0, .int .i64 0, .int .i64 0, .int .i64 0, .slice none 0 0]) (TZ BK453) 0 _ rfl) 1 _ rfl) 2 _ rfl) 3 _ rfl) 4 _ rfl) 5 _ rfl) Try.underlying47 rfl (by kernel_rfl)) rfl ?_
    exact ⟨_, _, _, TE, by first | exact Kd.R_nil _ _ _ _ _ | exact Kd.N_nil _ _ _ _ _ | exact Kd.V_nil _ _ _ _ _ | exact Kd.Q_nil _ _ _ _ _ | exact Kd.S_nil _ _ _ _ _, by first | exact Kd.R_nil _ _ _ _ _ | exact Kd.N_nil _ _ _ _ _ | exact Kd.V_nil _ _ _ _ _ | exact Kd.Q_nil _ _ _ _ _ | exact Kd.S_nil _ _ _ _ _, by first | exact Kd.S_nil _ _ _ _ _ | exact Kd.N_nil _ _ _ _ _ | exact Kd.V_nil _ _ _ _ _ | exact Kd.Q_nil _ _ _ _ _ | exact Kd.R_nil _ _ _ _ _, TB⟩

def impl_copyPut.f (a0_0 : Int) (a0_1 : Int) (l0_2 : List Int) (a0_3 : Int) (a0_4 : Int) (a0_5 : Int) : Option (Int × Int × List Int × Int × Int × Int) := (impl_cloned.f l0_2).bind fun t460 => (some (a0_0, a0_1, t460, a0_3, a0_4, a0_5))
set_option maxHeartbeats 40000000 in
set_option maxRecDepth 100000 in
theorem impl_copyPut.calls {ag : Int} {ac : Int} {ab : Option Addr} {ah : Nat} {aa : List Int} {af : Int} {ad : Int} {ae : Int} {r1 : Int} {r2 : Int} {r3 : List Int} {r4 : Int} {r5 : Int} {r6 : Int} {w : World} (aj : Kd.C (Kd.int .u8) w ab aa.length aa) (ai : aa.length ≤ ah) (h : impl_copyPut.f ag ac aa af ad ae = some (r1, r2, r3, r4, r5, r6)) :
  Calls Try.prog 75 #[.agg #[.int .i64 ag, .int .i64 ac, .slice ab aa.length ah, .int .i64 af, .int .i64 ad, .int .i64 ae]] w fun e w' => ∃ v2_ : Value, e = .returned (.agg #[.int .i64 r1, .int .i64 r2, v2_, .int .i64 r4, .int .i64 r5, .int .i64 r6]) ∧ Kd.R (Kd.int .u8) 5 w' w.heap.size (fun _ => True) v2_ r3 ∧ Below w.heap.size w w' := by
 have huq1 := Try.underlying104;have HRq1 := aM aj;have HCq1 := aM ai;clear aj ai;have HB := aM (Below.refl w.heap.size w);have H := h;clear h;unfold impl_copyPut.f at H;replace H := bE H;obtain ⟨t460, A2, H⟩ := H;simp only [Option.some.injEq, Prod.mk.injEq] at H;obtain ⟨rfl, rfl, rfl, rfl, rfl, rfl⟩ := H;go_enter Try.func75, Try.ntmps75;go_wp2_with (first | ((with_reducible refine gate_dst (N := 1) rfl ?_); refine gBx 1 #[.int .i64 ag, .int .i64 ac, .slice ab aa.length ah, .int .i64 af, .int .i64 ad, .int .i64 ae] 104 ?_; intro gbq1 hg wq1 hbox hb; have BKq1 := aM (hbox); have GWq1 := gW HB hg; have GEq1 := gW HB hg; replace HB := bS HB hb; clear hb hbox hg) | ((with_reducible refine gate_dst (N := 2) rfl ?_); refine gBx 2 #[.int .i64 0, .int .i64 0, .slice none 0 0, .int .i64 0, .int .i64 0, .int .i64 0] 104 ?_; intro gbq2 hg wq2 hbox hb; have BKq2 := aM (hbox); have GWq2 := gW HB hg; have GEq2 := gW HB hg; obtain ⟨NBq1, NBq2⟩ := nB BKq1 hg; replace BKq1 := mB BKq1 hb; replace HB := bS HB hb; clear hb hbox hg; obtain ⟨hnbq1, hncq1⟩ := oB NBq1; obtain ⟨hczq1, hczq2, hczq3, hczq4, hczq5, hczq6⟩ := cz6 BKq1.out; obtain ⟨hfzq1, hfzq2, hfzq3, hfzq4, hfzq5, hfzq6⟩ := fz6 BKq1.out) | ((with_reducible refine gate_callee (f := 46) rfl ?_); refine gL (some 5) Try.func46 #[.slice ab aa.length ah] ?_; (with_reducible refine (impl_cloned.calls ?side1 ?side2 A2.out).mono ?_); (case side1 => have X_ := (Kd.C_below HRq1.out HB.out); exact TC); (case side2 => exact HCq1.out); rintro e w7 ⟨vq1, rfl, ho0, hb⟩; refine ⟨_, rfl, ?_⟩; have HOq1 := aM (Kd.R_lower ho0 (below_size TB)); replace BKq1 := mB BKq1 hb; replace BKq2 := mB BKq2 hb; replace HB := bS HB hb; clear ho0 hb; obtain ⟨Aoq1, coq1, eoq1⟩ := Kd.R_slice HOq1.out; subst eoq1; obtain ⟨hczq7, hczq8, hczq9, hczq10, hczq11, hczq12⟩ := cz6 BKq1.out; obtain ⟨hfzq7, hfzq8, hfzq9, hfzq10, hfzq11, hfzq12⟩ := fz6 BKq1.out; obtain ⟨hczq13, hczq14, hczq15, hczq16, hczq17, hczq18⟩ := cz6 BKq2.out; obtain ⟨hfzq13, hfzq14, hfzq15, hfzq16, hfzq17, hfzq18⟩ := fz6 BKq2.out))
 refine bodyPost_ret (results_cell_row rfl _ _ gbq2 104 #[.int .i64 ag, .int .i64 ac, .slice Aoq1 t460.length coq1, .int .i64 af, .int .i64 ad, .int .i64 ae] (0, 0) _ rfl (blk_put (blk_put (blk_put (blk_put (blk_put (blk_put (cs := #[.int .i64 0, .int .i64 0, .slice none 0 0, .int .i64 0, .int .i64 0, .int .i64 0]) (TZ BKq2) 0 _ rfl) 1 _ rfl) 2 _ rfl) 3 _ rfl) 4 _ rfl) 5 _ rfl) Try.underlying104 rfl (by kernel_rfl)) rfl ?_;exact ⟨_, TE, by (with_reducible repeat (first | apply Kd.R_alloc | apply Kd.R_drewN | apply Kd.R_drew)); exact Kd.R_mono (RK2 (Kd.R_types (Kd.R_types HOq1.out BKq1.out (by decide)) BKq2.out (by decide))) (fun _ hk => trivial), TB⟩

end Go.Proofs.Ytaofakpljnkplaa.Q
