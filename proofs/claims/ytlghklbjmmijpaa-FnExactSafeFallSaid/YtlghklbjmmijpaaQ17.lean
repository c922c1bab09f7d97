/- Functions of the program as plain Lean functions, and that a call of each comes to what its function tells. Written by a program of this seat. -/
import Derived.Test.YtlghklbjmmijpaaQ0
import Derived.Test.YtlghklbjmmijpaaQ16
namespace Go.Proofs.Ytlghklbjmmijpaa.Q
open Go.RowKit Go.Proofs.YtlghklbjmmijpaaW.PrintWords Go.Proofs.YtlghklbjmmijpaaW.PrintLast Go.Proofs.YtlghklbjmmijpaaW.PrintMore
attribute [local go_sem] max2_int min2_int max_two min_two max_three min_three max_four min_four   -- for this text's walks alone
set_option linter.unusedVariables false
set_option linter.unusedSimpArgs false

/-! ### laws_toDisk: function 10 -/
def laws_toDisk.f (k : Nat) (l0_0 : List Int) (l0_1 : List Int) (a0_2 : Int) (a0_3 : Int) (a0_4 : Int) (l0_5 : List (S108)) : Option (List Int × List Int × Int × Int × Int × (List (S110))) := (laws_toByteS.f k l0_0).bind fun t287 => ((laws_toByteS.f k l0_1).bind fun t290 => ((laws_toRecord.f a0_2 a0_3 a0_4).bind fun bt293 => ((laws_toPutS.f k l0_5).bind fun t296 => (some (t287, t290, bt293.1, bt293.2.1, bt293.2.2, t296)))))
theorem laws_toDisk.mono : ∀ a0 a1 a2 a3 a4 a5 k, LeO (laws_toDisk.f k a0 a1 a2 a3 a4 a5) (laws_toDisk.f (k + 1) a0 a1 a2 a3 a4 a5) := by
  intro a0 a1 a2 a3 a4 a5 k
  have m0_ := @laws_toByteS.mono
  have m1_ := @laws_toPutS.mono
  unfold laws_toDisk.f
  exact LM
set_option maxHeartbeats 40000000 in
set_option maxRecDepth 100000 in
theorem laws_toDisk.calls (k : Nat) (A0_0 : Option Addr) (c0_0 : Nat) (l0_0 : List Int) (A0_1 : Option Addr) (c0_1 : Nat) (l0_1 : List Int) (a0_2 : Int) (a0_3 : Int) (a0_4 : Int) (A0_5 : Option Addr) (c0_5 : Nat) (l0_5 : List (S108)) (r1 : List Int) (r2 : List Int) (r3 : Int) (r4 : Int) (r5 : Int) (r6 : List (S110)) (w : World) (hr0_0 : Kd.C (Kd.int .u8) w A0_0 l0_0.length l0_0) (hc0_0 : l0_0.length ≤ c0_0) (hr0_1 : Kd.C (Kd.int .u8) w A0_1 l0_1.length l0_1) (hc0_1 : l0_1.length ≤ c0_1) (hr0_5 : Kd.C k108 w A0_5 l0_5.length l0_5) (hc0_5 : l0_5.length ≤ c0_5) (h : laws_toDisk.f k l0_0 l0_1 a0_2 a0_3 a0_4 l0_5 = some (r1, r2, r3, r4, r5, r6)) :
    Calls Try.prog 10 #[.agg #[.slice A0_0 l0_0.length c0_0, .slice A0_1 l0_1.length c0_1, .int .i64 a0_2, .int .i64 a0_3, .int .i64 a0_4, .slice A0_5 l0_5.length c0_5]] w fun e w' => ∃ v0_ v1_ v5_ : Value, e = .returned (.agg #[v0_, v1_, .int .i64 r3, .int .i64 r4, .int .i64 r5, v5_]) ∧ Kd.R (Kd.int .u8) 5 w' w.heap.size (fun k_ => some k_ ≠ (v1_ : Value).ownBlock) v0_ r1 ∧ Kd.R (Kd.int .u8) 5 w' w.heap.size (fun k_ => some k_ ≠ (v0_ : Value).ownBlock) v1_ r2 ∧ Kd.S k110 110 w' w.heap.size (fun k_ => some k_ ≠ (v0_ : Value).ownBlock ∧ some k_ ≠ (v1_ : Value).ownBlock) v5_ r6 ∧ Below w.heap.size w w' := by
  have hu27 := Try.underlying27
  have hu33 := Try.underlying33
  have hu24 := Try.underlying24
  have hu30 := Try.underlying30
  have HR0_0 := aM hr0_0
  have HC0_0 := aM hc0_0
  clear hr0_0 hc0_0
  have HR0_1 := aM hr0_1
  have HC0_1 := aM hc0_1
  clear hr0_1 hc0_1
  have HR0_5 := aM hr0_5
  have HC0_5 := aM hc0_5
  clear hr0_5 hc0_5
  have HB := aM (Below.refl w.heap.size w)
  have H := h
  clear h
  unfold laws_toDisk.f at H
  replace H := bE H
  obtain ⟨t287, A2, H⟩ := H
  replace H := bE H
  obtain ⟨t290, A3, H⟩ := H
  replace H := bE H
  obtain ⟨⟨t293, t294, t295⟩, A4, H⟩ := H
  dsimp only at H
  replace H := bE H
  obtain ⟨t296, A5, H⟩ := H
  simp only [Option.some.injEq, Prod.mk.injEq] at H
  obtain ⟨rfl, rfl, rfl, rfl, rfl, rfl⟩ := H
  go_enter Try.func10, Try.ntmps10
  go_wp2_with (first | ((with_reducible refine gate_dst (N := 1) rfl ?_); refine gBx 1 #[.slice A0_0 l0_0.length c0_0, .slice A0_1 l0_1.length c0_1, .int .i64 a0_2, .int .i64 a0_3, .int .i64 a0_4, .slice A0_5 l0_5.length c0_5] 27 ?_; intro gb284 hg w6 hbox hb; have BK284 := aM (hbox); have GW284 := aM ((by rw [hg]; exact (below_size TB) : w.heap.size ≤ gb284)); have GE284 := aM ((by rw [hg]; exact (below_size TB) : w.heap.size ≤ gb284)); replace HB := aM (below_step TB hb); clear hb hbox hg) | ((with_reducible refine gate_dst (N := 2) rfl ?_); refine gBx 2 #[.slice none 0 0, .slice none 0 0, .int .i64 0, .int .i64 0, .int .i64 0, .slice none 0 0] 33 ?_; intro gb285 hg w7 hbox hb; have BK285 := aM (hbox); have GW285 := aM ((by rw [hg]; exact (below_size TB) : w.heap.size ≤ gb285)); have GE285 := aM ((by rw [hg]; exact (below_size TB) : w.heap.size ≤ gb285)); have NB284_285 := aM ((by rw [hg]; exact Nat.ne_of_lt (blk_lt (by have X_ := BK284.out; exact TX)) : gb284 ≠ gb285)); have NB285_284 := aM ((by rw [hg]; exact Nat.ne_of_gt (blk_lt (by have X_ := BK284.out; exact TX)) : gb285 ≠ gb284)); replace BK284 := aM (blk_below (by have X_ := BK284.out; exact TX) hb); replace HB := aM (below_step TB hb); clear hb hbox hg) | ((with_reducible refine gate_dst (N := 3) rfl ?_); refine gBx 3 #[.slice none 0 0, .slice none 0 0, .int .i64 0, .int .i64 0, .int .i64 0, .slice none 0 0] 33 ?_; intro gb286 hg w8 hbox hb; have BK286 := aM (hbox); have GW286 := aM ((by rw [hg]; exact (below_size TB) : w.heap.size ≤ gb286)); have GE286 := aM ((by rw [hg]; exact (below_size TB) : w.heap.size ≤ gb286)); have NB284_286 := aM ((by rw [hg]; exact Nat.ne_of_lt (blk_lt (by have X_ := BK284.out; exact TX)) : gb284 ≠ gb286)); have NB286_284 := aM ((by rw [hg]; exact Nat.ne_of_gt (blk_lt (by have X_ := BK284.out; exact TX)) : gb286 ≠ gb284)); have NB285_286 := aM ((by rw [hg]; exact Nat.ne_of_lt (blk_lt (by have X_ := BK285.out; exact TX)) : gb285 ≠ gb286)); have NB286_285 := aM ((by rw [hg]; exact Nat.ne_of_gt (blk_lt (by have X_ := BK285.out; exact TX)) : gb286 ≠ gb285)); replace BK284 := aM (blk_below (by have X_ := BK284.out; exact TX) hb); replace BK285 := aM (blk_below (by have X_ := BK285.out; exact TX) hb); replace HB := aM (below_step TB hb); clear hb hbox hg; have hnb9 := NB284_285.out; have hnc9 := NB285_284.out; have hnb10 := NB284_286.out; have hnc10 := NB286_284.out; obtain ⟨hcz11_0, hcz11_1, hcz11_2, hcz11_3, hcz11_4, hcz11_5⟩ := cz6 BK284.out; obtain ⟨hfz11_0, hfz11_1, hfz11_2, hfz11_3, hfz11_4, hfz11_5⟩ := fz6 BK284.out) | ((with_reducible refine gate_callee (f := 11) rfl ?_); refine gL (some 6) Try.func11 #[.slice A0_0 l0_0.length c0_0] ?_; (with_reducible refine (laws_toByteS.calls k _ _ l0_0 t287 _ ?side1 ?side2 A2.out).mono ?_); (case side1 => have X_ := (Kd.C_below HR0_0.out HB.out); exact TC); (case side2 => exact HC0_0.out); rintro e w12 ⟨v288, rfl, ho0, hb⟩; refine ⟨_, rfl, ?_⟩; have HO289 := aM (Kd.R_lower ho0 (below_size TB)); replace BK284 := aM (blk_below (by have X_ := BK284.out; exact TX) hb); replace BK285 := aM (blk_below (by have X_ := BK285.out; exact TX) hb); replace BK286 := aM (blk_below (by have X_ := BK286.out; exact TX) hb); replace HB := aM (below_step TB hb); clear ho0 hb; obtain ⟨Ao13, co13, eo13⟩ := Kd.R_slice HO289.out; subst eo13; have hnb14 := NB286_285.out; have hnc14 := NB285_286.out; obtain ⟨hcz15_0, hcz15_1, hcz15_2, hcz15_3, hcz15_4, hcz15_5⟩ := cz6 BK286.out; obtain ⟨hfz15_0, hfz15_1, hfz15_2, hfz15_3, hfz15_4, hfz15_5⟩ := fz6 BK286.out; obtain ⟨hcz16_0, hcz16_1, hcz16_2, hcz16_3, hcz16_4, hcz16_5⟩ := cz6 BK284.out; obtain ⟨hfz16_0, hfz16_1, hfz16_2, hfz16_3, hfz16_4, hfz16_5⟩ := fz6 BK284.out) | ((with_reducible refine gate_callee (f := 11) rfl ?_); refine gL (some 10) Try.func11 #[.slice A0_1 l0_1.length c0_1] ?_; (with_reducible refine (laws_toByteS.calls k _ _ l0_1 t290 _ ?side1 ?side2 A3.out).mono ?_); (case side1 => exact Kd.C_below HR0_1.out TB); (case side2 => exact HC0_1.out); rintro e w17 ⟨v291, rfl, ho0, hb⟩; refine ⟨_, rfl, ?_⟩; have HO292 := aM (Kd.R_lower (Kd.R_new' ho0 (Kd.R_lt (by (with_reducible repeat (first | apply Kd.R_alloc | apply Kd.R_drewN | apply Kd.R_drew)); exact (R_off (Kd.R_types HO289.out BK286.out (by decide)) TO)))) (below_size TB)); replace HO289 := aM (Kd.R_elder' (by (with_reducible repeat (first | apply Kd.R_alloc | apply Kd.R_drewN | apply Kd.R_drew)); exact (R_off (Kd.R_types HO289.out BK286.out (by decide)) TO)) (Kd.R_base ho0) hb); replace BK284 := aM (blk_below (g := gb284) (o := .cells #[.slice A0_0 l0_0.length c0_0, .slice A0_1 l0_1.length c0_1, .int .i64 a0_2, .int .i64 a0_3, .int .i64 a0_4, .slice A0_5 l0_5.length c0_5] 27 (0, 0)) (by (with_reducible repeat (first | refine blk_drewN ?_ _ | refine blk_drew ?_ | refine blk_alloc ?_ _)); refine blk_far ?_ NB284_286.out _; (with_reducible repeat (first | refine blk_drewN ?_ _ | refine blk_drew ?_ | refine blk_alloc ?_ _)); exact BK284.out) hb); replace BK285 := aM (blk_below (g := gb285) (o := .cells #[.slice none 0 0, .slice none 0 0, .int .i64 0, .int .i64 0, .int .i64 0, .slice none 0 0] 33 (0, 0)) (by (with_reducible repeat (first | refine blk_drewN ?_ _ | refine blk_drew ?_ | refine blk_alloc ?_ _)); refine blk_far ?_ NB285_286.out _; (with_reducible repeat (first | refine blk_drewN ?_ _ | refine blk_drew ?_ | refine blk_alloc ?_ _)); exact BK285.out) hb); replace BK286 := aM (blk_below (g := gb286) (o := .cells #[.slice Ao13 t287.length co13, .slice none 0 0, .int .i64 0, .int .i64 0, .int .i64 0, .slice none 0 0] 33 (0, 0)) (by (with_reducible repeat (first | refine blk_drewN ?_ _ | refine blk_drew ?_ | refine blk_alloc ?_ _)); refine blk_put (cs := #[.slice none 0 0, .slice none 0 0, .int .i64 0, .int .i64 0, .int .i64 0, .slice none 0 0]) ?_ 0 _ rfl; (with_reducible repeat (first | refine blk_drewN ?_ _ | refine blk_drew ?_ | refine blk_alloc ?_ _)); exact BK286.out) hb); replace HB := aM (below_step TB hb); clear ho0 hb; obtain ⟨Ao18, co18, eo18⟩ := Kd.R_slice HO292.out; subst eo18; obtain ⟨hcz19_0, hcz19_1, hcz19_2, hcz19_3, hcz19_4, hcz19_5⟩ := cz6 BK286.out; obtain ⟨hfz19_0, hfz19_1, hfz19_2, hfz19_3, hfz19_4, hfz19_5⟩ := fz6 BK286.out; obtain ⟨hcz20_0, hcz20_1, hcz20_2, hcz20_3, hcz20_4, hcz20_5⟩ := cz6 BK284.out; obtain ⟨hfz20_0, hfz20_1, hfz20_2, hfz20_3, hfz20_4, hfz20_5⟩ := fz6 BK284.out) | ((with_reducible refine gate_callee (f := 42) rfl ?_); refine gL (some 14) Try.func42 #[.agg #[.int .i64 a0_2, .int .i64 a0_3, .int .i64 a0_4]] ?_; (with_reducible refine (laws_toRecord.calls a0_2 a0_3 a0_4 t293 t294 t295 _ A4.out).mono ?_); rintro e w21 ⟨rfl, hb⟩; refine ⟨_, rfl, ?_⟩; replace HO289 := aM (Kd.R_below (by (with_reducible repeat (first | apply Kd.R_alloc | apply Kd.R_drewN | apply Kd.R_drew)); exact (R_off (Kd.R_types HO289.out BK286.out (by decide)) TO)) hb); replace HO292 := aM (Kd.R_below (by (with_reducible repeat (first | apply Kd.R_alloc | apply Kd.R_drewN | apply Kd.R_drew)); exact (R_off (Kd.R_types HO292.out BK286.out (by decide)) TO)) hb); replace BK284 := aM (blk_below (g := gb284) (o := .cells #[.slice A0_0 l0_0.length c0_0, .slice A0_1 l0_1.length c0_1, .int .i64 a0_2, .int .i64 a0_3, .int .i64 a0_4, .slice A0_5 l0_5.length c0_5] 27 (0, 0)) (by (with_reducible repeat (first | refine blk_drewN ?_ _ | refine blk_drew ?_ | refine blk_alloc ?_ _)); refine blk_far ?_ NB284_286.out _; (with_reducible repeat (first | refine blk_drewN ?_ _ | refine blk_drew ?_ | refine blk_alloc ?_ _)); exact BK284.out) hb); replace BK285 := aM (blk_below (g := gb285) (o := .cells #[.slice none 0 0, .slice none 0 0, .int .i64 0, .int .i64 0, .int .i64 0, .slice none 0 0] 33 (0, 0)) (by (with_reducible repeat (first | refine blk_drewN ?_ _ | refine blk_drew ?_ | refine blk_alloc ?_ _)); refine blk_far ?_ NB285_286.out _; (with_reducible repeat (first | refine blk_drewN ?_ _ | refine blk_drew ?_ | refine blk_alloc ?_ _)); exact BK285.out) hb); replace BK286 := aM (blk_below (g := gb286) (o := .cells #[.slice Ao13 t287.length co13, .slice Ao18 t290.length co18, .int .i64 0, .int .i64 0, .int .i64 0, .slice none 0 0] 33 (0, 0)) (by (with_reducible repeat (first | refine blk_drewN ?_ _ | refine blk_drew ?_ | refine blk_alloc ?_ _)); refine blk_put (cs := #[.slice Ao13 t287.length co13, .slice none 0 0, .int .i64 0, .int .i64 0, .int .i64 0, .slice none 0 0]) ?_ 1 _ rfl; (with_reducible repeat (first | refine blk_drewN ?_ _ | refine blk_drew ?_ | refine blk_alloc ?_ _)); exact BK286.out) hb); replace HB := aM (below_step TB hb); clear hb; obtain ⟨hcz22_0, hcz22_1, hcz22_2, hcz22_3, hcz22_4, hcz22_5⟩ := cz6 BK286.out; obtain ⟨hfz22_0, hfz22_1, hfz22_2, hfz22_3, hfz22_4, hfz22_5⟩ := fz6 BK286.out; obtain ⟨hcz23_0, hcz23_1, hcz23_2, hcz23_3, hcz23_4, hcz23_5⟩ := cz6 BK284.out; obtain ⟨hfz23_0, hfz23_1, hfz23_2, hfz23_3, hfz23_4, hfz23_5⟩ := fz6 BK284.out) | ((with_reducible refine gate_callee (f := 43) rfl ?_); refine gL (some 18) Try.func43 #[.slice A0_5 l0_5.length c0_5] ?_; (with_reducible refine (laws_toPutS.calls k _ _ l0_5 t296 _ ?side1 ?side2 A5.out).mono ?_); (case side1 => exact Kd.C_below HR0_5.out TB); (case side2 => exact HC0_5.out); rintro e w24 ⟨v297, rfl, ho0, hb⟩; refine ⟨_, rfl, ?_⟩; have HO298 := aM (Kd.S_lower (Kd.S_new' (Kd.S_new' ho0 (Kd.R_lt (by (with_reducible repeat (first | apply Kd.R_alloc | apply Kd.R_drewN | apply Kd.R_drew)); exact (R_off (Kd.R_types HO289.out BK286.out (by decide)) TO)))) (Kd.R_lt (by (with_reducible repeat (first | apply Kd.R_alloc | apply Kd.R_drewN | apply Kd.R_drew)); exact (R_off (Kd.R_types HO292.out BK286.out (by decide)) TO)))) (below_size TB)); replace HO289 := aM (Kd.R_below (by (with_reducible repeat (first | apply Kd.R_alloc | apply Kd.R_drewN | apply Kd.R_drew)); exact (R_off (Kd.R_types HO289.out BK286.out (by decide)) TO)) hb); replace HO292 := aM (Kd.R_below (by (with_reducible repeat (first | apply Kd.R_alloc | apply Kd.R_drewN | apply Kd.R_drew)); exact (R_off (Kd.R_types HO292.out BK286.out (by decide)) TO)) hb); replace BK284 := aM (blk_below (g := gb284) (o := .cells #[.slice A0_0 l0_0.length c0_0, .slice A0_1 l0_1.length c0_1, .int .i64 a0_2, .int .i64 a0_3, .int .i64 a0_4, .slice A0_5 l0_5.length c0_5] 27 (0, 0)) (by (with_reducible repeat (first | refine blk_drewN ?_ _ | refine blk_drew ?_ | refine blk_alloc ?_ _)); refine blk_far ?_ NB284_286.out _; (with_reducible repeat (first | refine blk_drewN ?_ _ | refine blk_drew ?_ | refine blk_alloc ?_ _)); refine blk_far ?_ NB284_286.out _; (with_reducible repeat (first | refine blk_drewN ?_ _ | refine blk_drew ?_ | refine blk_alloc ?_ _)); refine blk_far ?_ NB284_286.out _; (with_reducible repeat (first | refine blk_drewN ?_ _ | refine blk_drew ?_ | refine blk_alloc ?_ _)); exact BK284.out) hb); replace BK285 := aM (blk_below (g := gb285) (o := .cells #[.slice none 0 0, .slice none 0 0, .int .i64 0, .int .i64 0, .int .i64 0, .slice none 0 0] 33 (0, 0)) (by (with_reducible repeat (first | refine blk_drewN ?_ _ | refine blk_drew ?_ | refine blk_alloc ?_ _)); refine blk_far ?_ NB285_286.out _; (with_reducible repeat (first | refine blk_drewN ?_ _ | refine blk_drew ?_ | refine blk_alloc ?_ _)); refine blk_far ?_ NB285_286.out _; (with_reducible repeat (first | refine blk_drewN ?_ _ | refine blk_drew ?_ | refine blk_alloc ?_ _)); refine blk_far ?_ NB285_286.out _; (with_reducible repeat (first | refine blk_drewN ?_ _ | refine blk_drew ?_ | refine blk_alloc ?_ _)); exact BK285.out) hb); replace BK286 := aM (blk_below (g := gb286) (o := .cells #[.slice Ao13 t287.length co13, .slice Ao18 t290.length co18, .int .i64 t293, .int .i64 t294, .int .i64 t295, .slice none 0 0] 33 (0, 0)) (by (with_reducible repeat (first | refine blk_drewN ?_ _ | refine blk_drew ?_ | refine blk_alloc ?_ _)); refine blk_put (cs := #[.slice Ao13 t287.length co13, .slice Ao18 t290.length co18, .int .i64 t293, .int .i64 t294, .int .i64 0, .slice none 0 0]) ?_ 4 _ rfl; (with_reducible repeat (first | refine blk_drewN ?_ _ | refine blk_drew ?_ | refine blk_alloc ?_ _)); refine blk_put (cs := #[.slice Ao13 t287.length co13, .slice Ao18 t290.length co18, .int .i64 t293, .int .i64 0, .int .i64 0, .slice none 0 0]) ?_ 3 _ rfl; (with_reducible repeat (first | refine blk_drewN ?_ _ | refine blk_drew ?_ | refine blk_alloc ?_ _)); refine blk_put (cs := #[.slice Ao13 t287.length co13, .slice Ao18 t290.length co18, .int .i64 0, .int .i64 0, .int .i64 0, .slice none 0 0]) ?_ 2 _ rfl; (with_reducible repeat (first | refine blk_drewN ?_ _ | refine blk_drew ?_ | refine blk_alloc ?_ _)); exact BK286.out) hb); replace HB := aM (below_step TB hb); clear ho0 hb; obtain ⟨Ao25, co25, eo25⟩ := Kd.S_slice HO298.out; subst eo25; obtain ⟨hcz26_0, hcz26_1, hcz26_2, hcz26_3, hcz26_4, hcz26_5⟩ := cz6 BK286.out; obtain ⟨hfz26_0, hfz26_1, hfz26_2, hfz26_3, hfz26_4, hfz26_5⟩ := fz6 BK286.out; obtain ⟨hcz27_0, hcz27_1, hcz27_2, hcz27_3, hcz27_4, hcz27_5⟩ := cz6 BK285.out; obtain ⟨hfz27_0, hfz27_1, hfz27_2, hfz27_3, hfz27_4, hfz27_5⟩ := fz6 BK285.out))
  refine bodyPost_ret (results_cell_row rfl _ _ gb285 33 #[.slice Ao13 t287.length co13, .slice Ao18 t290.length co18, .int .i64 t293, .int .i64 t294, .int .i64 t295, .slice Ao25 t296.length co25] (0, 0) _ rfl (by (with_reducible repeat (first | refine blk_drewN ?_ _ | refine blk_drew ?_ | refine blk_alloc ?_ _)); refine blk_put (cs := #[.slice Ao13 t287.length co13, .slice Ao18 t290.length co18, .int .i64 t293, .int .i64 t294, .int .i64 t295, .slice none 0 0]) ?_ 5 _ rfl; (with_reducible repeat (first | refine blk_drewN ?_ _ | refine blk_drew ?_ | refine blk_alloc ?_ _)); refine blk_put (cs := #[.slice Ao13 t287.length co13, .slice Ao18 t290.length co18, .int .i64 t293, .int .i64 t294, .int .i64 0, .slice none 0 0]) ?_ 4 _ rfl; (with_reducible repeat (first | refine blk_drewN ?_ _ | refine blk_drew ?_ | refine blk_alloc ?_ _)); refine blk_put (cs := #[.slice Ao13 t287.length co13, .slice Ao18 t290.length co18, .int .i64 t293, .int .i64 0, .int .i64 0, .slice none 0 0]) ?_ 3 _ rfl; (with_reducible repeat (first | refine blk_drewN ?_ _ | refine blk_drew ?_ | refine blk_alloc ?_ _)); refine blk_put (cs := #[.slice Ao13 t287.length co13, .slice Ao18 t290.length co18, .int .i64 0, .int .i64 0, .int .i64 0, .slice none 0 0]) ?_ 2 _ rfl; (with_reducible repeat (first | refine blk_drewN ?_ _ | refine blk_drew ?_ | refine blk_alloc ?_ _)); refine blk_put (cs := #[.slice Ao13 t287.length co13, .slice none 0 0, .int .i64 0, .int .i64 0, .int .i64 0, .slice none 0 0]) ?_ 1 _ rfl; (with_reducible repeat (first | refine blk_drewN ?_ _ | refine blk_drew ?_ | refine blk_alloc ?_ _)); refine blk_put (cs := #[.slice none 0 0, .slice none 0 0, .int .i64 0, .int .i64 0, .int .i64 0, .slice none 0 0]) ?_ 0 _ rfl; (with_reducible repeat (first | refine blk_drewN ?_ _ | refine blk_drew ?_ | refine blk_alloc ?_ _)); refine blk_far ?_ NB285_286.out _; (with_reducible repeat (first | refine blk_drewN ?_ _ | refine blk_drew ?_ | refine blk_alloc ?_ _)); exact BK285.out) Try.underlying33 rfl (by kernel_rfl)) rfl ?_
  exact ⟨_, _, _, by first | rfl | (simp [errW_none, errW_some] <;> rfl) | (simp [*, errW_none, errW_some] <;> rfl), by (with_reducible repeat (first | apply Kd.R_alloc | apply Kd.R_drewN | apply Kd.R_drew)); exact Kd.R_mono (Kd.R_far (p := ⟨gb285, 5, none⟩) (Kd.R_far (p := ⟨gb285, 4, none⟩) (Kd.R_far (p := ⟨gb285, 3, none⟩) (Kd.R_far (p := ⟨gb285, 2, none⟩) (Kd.R_far (p := ⟨gb285, 1, none⟩) (Kd.R_far (p := ⟨gb285, 0, none⟩) (Kd.R_far (p := ⟨gb286, 5, none⟩) (Kd.R_types (Kd.R_types HO289.out BK286.out (by decide)) BK285.out (by decide)) (fun _ hk => hk.1.2) (.slice Ao25 t296.length co25)) (fun _ hk => hk.2) (.slice Ao13 t287.length co13)) (fun _ hk => hk.2) (.slice Ao18 t290.length co18)) (fun _ hk => hk.2) (.int .i64 t293)) (fun _ hk => hk.2) (.int .i64 t294)) (fun _ hk => hk.2) (.int .i64 t295)) (fun _ hk => hk.2) (.slice Ao25 t296.length co25)) (fun _ hk => hk.1.1.2), by (with_reducible repeat (first | apply Kd.R_alloc | apply Kd.R_drewN | apply Kd.R_drew)); exact Kd.R_mono (Kd.R_far (p := ⟨gb285, 5, none⟩) (Kd.R_far (p := ⟨gb285, 4, none⟩) (Kd.R_far (p := ⟨gb285, 3, none⟩) (Kd.R_far (p := ⟨gb285, 2, none⟩) (Kd.R_far (p := ⟨gb285, 1, none⟩) (Kd.R_far (p := ⟨gb285, 0, none⟩) (Kd.R_far (p := ⟨gb286, 5, none⟩) (Kd.R_types (Kd.R_types HO292.out BK286.out (by decide)) BK285.out (by decide)) (fun _ hk => hk.1.2) (.slice Ao25 t296.length co25)) (fun _ hk => hk.2) (.slice Ao13 t287.length co13)) (fun _ hk => hk.2) (.slice Ao18 t290.length co18)) (fun _ hk => hk.2) (.int .i64 t293)) (fun _ hk => hk.2) (.int .i64 t294)) (fun _ hk => hk.2) (.int .i64 t295)) (fun _ hk => hk.2) (.slice Ao25 t296.length co25)) (fun _ hk => hk.1.1.2), by (with_reducible repeat (first | apply Kd.S_alloc | apply Kd.S_drewN | apply Kd.S_drew)); exact Kd.S_mono (Kd.S_far (p := ⟨gb285, 5, none⟩) (Kd.S_far (p := ⟨gb285, 4, none⟩) (Kd.S_far (p := ⟨gb285, 3, none⟩) (Kd.S_far (p := ⟨gb285, 2, none⟩) (Kd.S_far (p := ⟨gb285, 1, none⟩) (Kd.S_far (p := ⟨gb285, 0, none⟩) (Kd.S_far (p := ⟨gb286, 5, none⟩) (Kd.S_types (Kd.S_types HO298.out BK286.out (by decide)) BK285.out (by decide)) (fun _ hk => hk.1.2) (.slice Ao25 t296.length co25)) (fun _ hk => hk.2) (.slice Ao13 t287.length co13)) (fun _ hk => hk.2) (.slice Ao18 t290.length co18)) (fun _ hk => hk.2) (.int .i64 t293)) (fun _ hk => hk.2) (.int .i64 t294)) (fun _ hk => hk.2) (.int .i64 t295)) (fun _ hk => hk.2) (.slice Ao25 t296.length co25)) (fun _ hk => ⟨hk.1.1.1.2, hk.1.1.2⟩), TB⟩

/-! ### laws_eqByteS: function 14 -/
def laws_eqByteS.l0 : Nat → List Int → List Int → Int → Option (Bool)
  | 0, _, _, _ => none
  | k + 1, x0, x1, x5 => if x5 < (x0.length : Int) then (if 0 ≤ x5 then (if x5 < (x1.length : Int) then (if (rd x0 x5) = (rd x1 x5) then (laws_eqByteS.l0 k x0 x1 (wrap64 (x5 + 1))) else (some false)) else (none)) else (none)) else (some true)
def laws_eqByteS.f (k : Nat) (l0 : List Int) (l1 : List Int) : Option (Bool) := if (l0.length : Int) = (l1.length : Int) then (laws_eqByteS.l0 k l0 l1 0) else (some false)
theorem laws_eqByteS.mono_l : ∀ k, (∀ y0 y1 y2, LeO (laws_eqByteS.l0 k y0 y1 y2) (laws_eqByteS.l0 (k + 1) y0 y1 y2))
  | 0 => fun _ _ _ r h => by simp [laws_eqByteS.l0] at h
  | k + 1 => by
    have ih0 := laws_eqByteS.mono_l k
    · intro y0 y1 y2
      unfold laws_eqByteS.l0
      exact LM
theorem laws_eqByteS.mono : ∀ a0 a1 k, LeO (laws_eqByteS.f k a0 a1) (laws_eqByteS.f (k + 1) a0 a1) := by
  intro a0 a1 k
  have ih0 := laws_eqByteS.mono_l k
  unfold laws_eqByteS.f
  exact LM
set_option maxHeartbeats 40000000 in
set_option maxRecDepth 100000 in
theorem laws_eqByteS.calls (k : Nat) (A0 : Option Addr) (c0 : Nat) (l0 : List Int) (A1 : Option Addr) (c1 : Nat) (l1 : List Int) (r : Bool) (w : World) (hr0 : Kd.C (Kd.int .u8) w A0 l0.length l0) (hc0 : l0.length ≤ c0) (hr1 : Kd.C (Kd.int .u8) w A1 l1.length l1) (hc1 : l1.length ≤ c1) (h : laws_eqByteS.f k l0 l1 = some r) :
    Calls Try.prog 14 #[.slice A0 l0.length c0, .slice A1 l1.length c1] w fun e w' => e = .returned (.bool r) ∧ Drawn0 w w' := by
  have HR0 := aM hr0
  have HC0 := aM hc0
  clear hr0 hc0
  have HR1 := aM hr1
  have HC1 := aM hc1
  clear hr1 hc1
  have H := h
  clear h
  unfold laws_eqByteS.f at H
  by_cases c3 : (l0.length : Int) = (l1.length : Int)
  · rw [if_pos c3] at H
    have c3b0 : ((l0.length : Int) == (l1.length : Int)) = true := beq_iff_eq.mpr c3
    have c3b1 : ((l0.length : Int) != (l1.length : Int)) = false := bne_eq_false_iff_eq.mpr c3
    have c3b2 : (l0.length == l1.length) = true := by first | simpa using c3 | (simp at c3 ⊢; omega)
    clear c3
    have H' := aM H
    clear H
    go_enter Try.func14, Try.ntmps14
    go_wp2
    repeat (go_quiet (fail); try go_wp2)
    go_loopg [5] k (fun kq v5 w' => ∃ (x5_1 : Int), v5 = .int .i64 x5_1 ∧ Aside0 (laws_eqByteS.l0 kq l0 l1 x5_1 = some r) ∧ Aside0 (kq ≤ k) ∧ Drawn0 w w')
    case atStart => exact ⟨(0), (by first | rfl | (simp; done) | (simp [*]; done)), H', ⟨Nat.le_refl _⟩, TD⟩
    case round =>
      clear H'
      try clear c1
      try clear p2
      try clear c3
      try clear c3b0
      try clear c3b1
      try clear c3b2
      obtain ⟨x5_1, rfl, HA, HK1, ⟨m1, rfl⟩⟩ := hrel
      cases gk with
      | zero => exact absurd HA.out (by simp [laws_eqByteS.l0])
      | succ k1 =>
        have H := HA.out
        clear HA
        simp only [laws_eqByteS.l0] at H
        by_cases c4 : x5_1 < (l0.length : Int)
        · rw [if_pos c4] at H
          have c4b0 : decide (x5_1 < (l0.length : Int)) = true := decide_eq_true c4
          clear c4
          replace H := ifN H
          obtain ⟨c5, H⟩ := H
          have c5b0 : decide (0 ≤ x5_1) = true := decide_eq_true c5
          clear c5
          replace H := ifN H
          obtain ⟨c6, H⟩ := H
          have c6b0 : decide (x5_1 < (l1.length : Int)) = true := decide_eq_true c6
          clear c6
          by_cases c7 : (rd l0 x5_1) = (rd l1 x5_1)
          · rw [if_pos c7] at H
            have c7b0 : ((rd l0 x5_1) == (rd l1 x5_1)) = true := beq_iff_eq.mpr c7
            have c7b1 : ((rd l0 x5_1) != (rd l1 x5_1)) = false := bne_eq_false_iff_eq.mpr c7
            clear c7
            have H' := aM H
            clear H
            have p387 : 0 ≤ (x5_1 : Int) := DT
            have q387 : x5_1 < (l0.length : Int) := DT
            obtain ⟨ad387, e387, hx387_0⟩ := Kd.at_int HR0.out x5_1 p387 q387
            cases e387
            replace p387 := eq_true p387
            replace q387 := eq_true q387
            have p388 : 0 ≤ (x5_1 : Int) := DT
            have q388 : x5_1 < (l1.length : Int) := DT
            obtain ⟨ad388, e388, hx388_0⟩ := Kd.at_int HR1.out x5_1 p388 q388
            cases e388
            replace p388 := eq_true p388
            replace q388 := eq_true q388
            go_wp2
            repeat (go_quiet (fail); try go_wp2)
            go_roundg k1
            case measure => have := HK1.out; omega
            case rel => exact ⟨(wrap64 (x5_1 + 1)), (by first | rfl | (simp; done) | (simp [*]; done)), H', ⟨by have := HK1.out; omega⟩, TD⟩
          · rw [if_neg c7] at H
            have c7b0 : ((rd l0 x5_1) == (rd l1 x5_1)) = false := beq_eq_false_iff_ne.mpr c7
            have c7b1 : ((rd l0 x5_1) != (rd l1 x5_1)) = true := bne_iff_ne.mpr c7
            obtain rfl := Option.some.inj H
            have p387 : 0 ≤ (x5_1 : Int) := DT
            have q387 : x5_1 < (l0.length : Int) := DT
            obtain ⟨ad387, e387, hx387_0⟩ := Kd.at_int HR0.out x5_1 p387 q387
            cases e387
            replace p387 := eq_true p387
            replace q387 := eq_true q387
            have p388 : 0 ≤ (x5_1 : Int) := DT
            have q388 : x5_1 < (l1.length : Int) := DT
            obtain ⟨ad388, e388, hx388_0⟩ := Kd.at_int HR1.out x5_1 p388 q388
            cases e388
            replace p388 := eq_true p388
            replace q388 := eq_true q388
            go_wp2
            repeat (go_quiet (fail); try go_wp2)
            go_ret
            exact ⟨by first | rfl | (simp; done) | (simp [*]; done), TD⟩
        · rw [if_neg c4] at H
          have c4b0 : decide (x5_1 < (l0.length : Int)) = false := decide_eq_false c4
          clear c4
          obtain rfl := Option.some.inj H
          go_wp2
          repeat (go_quiet (fail); try go_wp2)
          go_ret
          exact ⟨by first | rfl | (simp; done) | (simp [*]; done), TD⟩
  · rw [if_neg c3] at H
    have c3b0 : ((l0.length : Int) == (l1.length : Int)) = false := beq_eq_false_iff_ne.mpr c3
    have c3b1 : ((l0.length : Int) != (l1.length : Int)) = true := bne_iff_ne.mpr c3
    have c3b2 : (l0.length == l1.length) = false := by first | simpa using c3 | (simp at c3 ⊢; omega)
    obtain rfl := Option.some.inj H
    go_enter Try.func14, Try.ntmps14
    go_wp2
    repeat (go_quiet (fail); try go_wp2)
    go_ret
    exact ⟨by first | rfl | (simp; done) | (simp [*]; done), TD⟩

/-! ### laws_eqRecord: function 47 -/
def laws_eqRecord.f (a0_0 : Int) (a0_1 : Int) (a0_2 : Int) (a1_0 : Int) (a1_1 : Int) (a1_2 : Int) : Option (Bool) := if a0_0 = a1_0 then (if a0_1 = a1_1 then (if a0_2 = a1_2 then (some true) else (some false)) else (some false)) else (some false)
set_option maxHeartbeats 40000000 in
set_option maxRecDepth 100000 in
theorem laws_eqRecord.calls (ac : Int) (ag : Int) (ad : Int) (ae : Int) (af : Int) (ab : Int) (r : Bool) (w : World) (h : laws_eqRecord.f ac ag ad ae af ab = some r) :
  Calls Try.prog 47 #[.agg #[.int .i64 ac, .int .i64 ag, .int .i64 ad], .agg #[.int .i64 ae, .int .i64 af, .int .i64 ab]] w fun e w' => e = .returned (.bool r) ∧ Below w.heap.size w w' := by
 have hu30 := Try.underlying30
 have HB := aM (Below.refl w.heap.size w)
 have H := h
 clear h
 unfold laws_eqRecord.f at H
 by_cases c3 : ac = ae
 ·rw [if_pos c3] at H
  have c3b0 : (ac == ae) = true := beq_iff_eq.mpr c3
  have c3b1 : (ac != ae) = false := bne_eq_false_iff_eq.mpr c3
  clear c3
  by_cases c4 : ag = af
  ·rw [if_pos c4] at H
   have c4b0 : (ag == af) = true := beq_iff_eq.mpr c4
   have c4b1 : (ag != af) = false := bne_eq_false_iff_eq.mpr c4
   clear c4
   by_cases c5 : ad = ab
   ·rw [if_pos c5] at H
    have c5b0 : (ad == ab) = true := beq_iff_eq.mpr c5
    have c5b1 : (ad != ab) = false := bne_eq_false_iff_eq.mpr c5
    clear c5
    obtain rfl := Option.some.inj H
    go_enter Try.func47, Try.ntmps47
    go_wp2_with (first | ((with_reducible refine gate_dst (N := 2) rfl ?_); refine gBx 2 #[.int .i64 ac, .int .i64 ag, .int .i64 ad] 30 ?_; intro aa hg w6 hbox hb; have BK389 := aM (hbox); have GW389 := aM ((by rw [hg]; exact (below_size TB) : w.heap.size ≤ aa)); have GE389 := aM ((by rw [hg]; exact (below_size TB) : w.heap.size ≤ aa)); replace HB := aM (below_step TB hb); clear hb hbox hg) | ((with_reducible refine gate_dst (N := 3) rfl ?_); refine gBx 3 #[.int .i64 ae, .int .i64 af, .int .i64 ab] 30 ?_; intro gb390 hg w7 hbox hb; have BK390 := aM (hbox); have GW390 := aM ((by rw [hg]; exact (below_size TB) : w.heap.size ≤ gb390)); have GE390 := aM ((by rw [hg]; exact (below_size TB) : w.heap.size ≤ gb390)); have NB389_390 := aM ((by rw [hg]; exact Nat.ne_of_lt (blk_lt (by have X_ := BK389.out; exact TX)) : aa ≠ gb390)); have NB390_389 := aM ((by rw [hg]; exact Nat.ne_of_gt (blk_lt (by have X_ := BK389.out; exact TX)) : gb390 ≠ aa)); replace BK389 := aM (blk_below (by have X_ := BK389.out; exact TX) hb); replace HB := aM (below_step TB hb); clear hb hbox hg; have hnb8 := NB389_390.out; have hnc8 := NB390_389.out; obtain ⟨hcz9_0, hcz9_1, hcz9_2⟩ := cz3 BK389.out; obtain ⟨hfz9_0, hfz9_1, hfz9_2⟩ := fz3 BK389.out; obtain ⟨hcz10_0, hcz10_1, hcz10_2⟩ := cz3 BK390.out; obtain ⟨hfz10_0, hfz10_1, hfz10_2⟩ := fz3 BK390.out))
    go_ret
    exact ⟨by first | rfl | (simp [errW_none, errW_some] <;> rfl) | (simp [*, errW_none, errW_some] <;> rfl), TB⟩
   ·rw [if_neg c5] at H
    have c5b0 : (ad == ab) = false := beq_eq_false_iff_ne.mpr c5
    have c5b1 : (ad != ab) = true := bne_iff_ne.mpr c5
    obtain rfl := Option.some.inj H
    go_enter Try.func47, Try.ntmps47
    go_wp2_with (first | ((with_reducible refine gate_dst (N := 2) rfl ?_); refine gBx 2 #[.int .i64 ac, .int .i64 ag, .int .i64 ad] 30 ?_; intro aa hg w11 hbox hb; have BK389 := aM (hbox); have GW389 := aM ((by rw [hg]; exact (below_size TB) : w.heap.size ≤ aa)); have GE389 := aM ((by rw [hg]; exact (below_size TB) : w.heap.size ≤ aa)); replace HB := aM (below_step TB hb); clear hb hbox hg) | ((with_reducible refine gate_dst (N := 3) rfl ?_); refine gBx 3 #[.int .i64 ae, .int .i64 af, .int .i64 ab] 30 ?_; intro gb390 hg w12 hbox hb; have BK390 := aM (hbox); have GW390 := aM ((by rw [hg]; exact (below_size TB) : w.heap.size ≤ gb390)); have GE390 := aM ((by rw [hg]; exact (below_size TB) : w.heap.size ≤ gb390)); have NB389_390 := aM ((by rw [hg]; exact Nat.ne_of_lt (blk_lt (by have X_ := BK389.out; exact TX)) : aa ≠ gb390)); have NB390_389 := aM ((by rw [hg]; exact Nat.ne_of_gt (blk_lt (by have X_ := BK389.out; exact TX)) : gb390 ≠ aa)); replace BK389 := aM (blk_below (by have X_ := BK389.out; exact TX) hb); replace HB := aM (below_step TB hb); clear hb hbox hg; have hnb13 := NB389_390.out; have hnc13 := NB390_389.out; obtain ⟨hcz14_0, hcz14_1, hcz14_2⟩ := cz3 BK389.out; obtain ⟨hfz14_0, hfz14_1, hfz14_2⟩ := fz3 BK389.out; obtain ⟨hcz15_0, hcz15_1, hcz15_2⟩ := cz3 BK390.out; obtain ⟨hfz15_0, hfz15_1, hfz15_2⟩ := fz3 BK390.out))
    go_ret
    exact ⟨by first | rfl | (simp [errW_none, errW_some] <;> rfl) | (simp [*, errW_none, errW_some] <;> rfl), TB⟩
  ·rw [if_neg c4] at H
   have c4b0 : (ag == af) = false := beq_eq_false_iff_ne.mpr c4
   have c4b1 : (ag != af) = true := bne_iff_ne.mpr c4
   obtain rfl := Option.some.inj H
   go_enter Try.func47, Try.ntmps47
   go_wp2_with (first | ((with_reducible refine gate_dst (N := 2) rfl ?_); refine gBx 2 #[.int .i64 ac, .int .i64 ag, .int .i64 ad] 30 ?_; intro aa hg w16 hbox hb; have BK389 := aM (hbox); have GW389 := aM ((by rw [hg]; exact (below_size TB) : w.heap.size ≤ aa)); have GE389 := aM ((by rw [hg]; exact (below_size TB) : w.heap.size ≤ aa)); replace HB := aM (below_step TB hb); clear hb hbox hg) | ((with_reducible refine gate_dst (N := 3) rfl ?_); refine gBx 3 #[.int .i64 ae, .int .i64 af, .int .i64 ab] 30 ?_; intro gb390 hg w17 hbox hb; have BK390 := aM (hbox); have GW390 := aM ((by rw [hg]; exact (below_size TB) : w.heap.size ≤ gb390)); have GE390 := aM ((by rw [hg]; exact (below_size TB) : w.heap.size ≤ gb390)); have NB389_390 := aM ((by rw [hg]; exact Nat.ne_of_lt (blk_lt (by have X_ := BK389.out; exact TX)) : aa ≠ gb390)); have NB390_389 := aM ((by rw [hg]; exact Nat.ne_of_gt (blk_lt (by have X_ := BK389.out; exact TX)) : gb390 ≠ aa)); replace BK389 := aM (blk_below (by have X_ := BK389.out; exact TX) hb); replace HB := aM (below_step TB hb); clear hb hbox hg; have hnb18 := NB389_390.out; have hnc18 := NB390_389.out; obtain ⟨hcz19_0, hcz19_1, hcz19_2⟩ := cz3 BK389.out; obtain ⟨hfz19_0, hfz19_1, hfz19_2⟩ := fz3 BK389.out; obtain ⟨hcz20_0, hcz20_1, hcz20_2⟩ := cz3 BK390.out; obtain ⟨hfz20_0, hfz20_1, hfz20_2⟩ := fz3 BK390.out))
   go_ret
   exact ⟨by first | rfl | (simp [errW_none, errW_some] <;> rfl) | (simp [*, errW_none, errW_some] <;> rfl), TB⟩
 ·rw [if_neg c3] at H
  have c3b0 : (ac == ae) = false := beq_eq_false_iff_ne.mpr c3
  have c3b1 : (ac != ae) = true := bne_iff_ne.mpr c3
  obtain rfl := Option.some.inj H
  go_enter Try.func47, Try.ntmps47
  go_wp2_with (first | ((with_reducible refine gate_dst (N := 2) rfl ?_); refine gBx 2 #[.int .i64 ac, .int .i64 ag, .int .i64 ad] 30 ?_; intro aa hg w21 hbox hb; have BK389 := aM (hbox); have GW389 := aM ((by rw [hg]; exact (below_size TB) : w.heap.size ≤ aa)); have GE389 := aM ((by rw [hg]; exact (below_size TB) : w.heap.size ≤ aa)); replace HB := aM (below_step TB hb); clear hb hbox hg) | ((with_reducible refine gate_dst (N := 3) rfl ?_); refine gBx 3 #[.int .i64 ae, .int .i64 af, .int .i64 ab] 30 ?_; intro gb390 hg w22 hbox hb; have BK390 := aM (hbox); have GW390 := aM ((by rw [hg]; exact (below_size TB) : w.heap.size ≤ gb390)); have GE390 := aM ((by rw [hg]; exact (below_size TB) : w.heap.size ≤ gb390)); have NB389_390 := aM ((by rw [hg]; exact Nat.ne_of_lt (blk_lt (by have X_ := BK389.out; exact TX)) : aa ≠ gb390)); have NB390_389 := aM ((by rw [hg]; exact Nat.ne_of_gt (blk_lt (by have X_ := BK389.out; exact TX)) : gb390 ≠ aa)); replace BK389 := aM (blk_below (by have X_ := BK389.out; exact TX) hb); replace HB := aM (below_step TB hb); clear hb hbox hg; have hnb23 := NB389_390.out; have hnc23 := NB390_389.out; obtain ⟨hcz24_0, hcz24_1, hcz24_2⟩ := cz3 BK389.out; obtain ⟨hfz24_0, hfz24_1, hfz24_2⟩ := fz3 BK389.out; obtain ⟨hcz25_0, hcz25_1, hcz25_2⟩ := cz3 BK390.out; obtain ⟨hfz25_0, hfz25_1, hfz25_2⟩ := fz3 BK390.out))
  go_ret
  exact ⟨by first | rfl | (simp [errW_none, errW_some] <;> rfl) | (simp [*, errW_none, errW_some] <;> rfl), TB⟩

end Go.Proofs.Ytlghklbjmmijpaa.Q
