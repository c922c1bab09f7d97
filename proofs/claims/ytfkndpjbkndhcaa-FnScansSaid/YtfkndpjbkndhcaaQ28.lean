/- Functions of the program as plain Lean functions, and that a call of each comes to what its function tells. Written by a program of this seat. -/
import Derived.Test.YtfkndpjbkndhcaaQ0
import Derived.Test.YtfkndpjbkndhcaaQ2
import Derived.Test.YtfkndpjbkndhcaaQ3
import Derived.Test.YtfkndpjbkndhcaaQ17
import Derived.Test.YtfkndpjbkndhcaaQ24
import Derived.Test.YtfkndpjbkndhcaaQ26
import Derived.Test.YtfkndpjbkndhcaaQ27
namespace Go.Proofs.Ytfkndpjbkndhcaa.Q
open Go.RowKit Go.Proofs.YtfkndpjbkndhcaaW.PrintWords Go.Proofs.YtfkndpjbkndhcaaW.PrintLast Go.Proofs.YtfkndpjbkndhcaaW.PrintMore
attribute [local go_sem] max2_int min2_int max_two min_two max_three min_three max_four min_four   -- for this text's walks alone
set_option linter.unusedVariables false
set_option linter.unusedSimpArgs false

/-! ### spec_DrawFindSum: function 24 -/
def spec_DrawFindSum.j0 : Nat → List Int → Int → Bool → List Int → Int → Int → Int → Int → Int → List (S48) → Option (List Int × Int × Int × Int)
  | 0, _, _, _, _, _, _, _, _, _, _ => none
  | k + 1, x6, x8, x27, x619000, x619001, x619002, x636000, x636001, x636002, x636003 => if x27 = true then ((spec_l1Below.f x619000 x619001 x619002 (x636003.length : Int)).bind fun bt645 => ((spec_SpanOf.f x636001 x636002 bt645.1).bind fun bt648 => (if 0 ≤ bt645.1 then (if bt645.1 < (x636003.length : Int) then (some (x6, (rd_T48 x636003 bt645.1).f0, (rd_T48 x636003 bt645.1).f1, bt648.2)) else (none)) else (none)))) else ((spec_l3Bytes.f k x619000 x619001 x619002 4).bind fun bt651 => ((spec_SumOf.f k bt651.1).bind fun bt656 => (some (x6, bt656.1, bt656.2, x8))))
def spec_DrawFindSum.f (k : Nat) (l0 : List Int) : Option (List Int × Int × Int × Int) := (spec_l1New.f k l0).bind fun bt615 => ((spec_l6Draw.f k bt615.1 bt615.2.1 bt615.2.2).bind fun bt619 => ((spec_l7Old.f k bt615.1 bt619.2.2.2.2.2.1 bt619.2.2.2.2.2.2 bt619.2.2.2.2.1).bind fun bt630 => ((spec_l1Int.f bt615.1 bt630.2.1 bt630.2.2 (([2, 3, 4, 0, 7] : List Int))).bind fun bt639 => (if (bt619.2.2.2.1.length : Int) > 0 then ((spec_l1Once.f bt615.1 bt639.2.1 bt639.2.2 4).bind fun bt642 => (spec_DrawFindSum.j0 k bt630.1 bt639.1 (!bt642.1) bt615.1 bt642.2.1 bt642.2.2 bt619.1 bt619.2.1 bt619.2.2.1 bt619.2.2.2.1)) else (spec_DrawFindSum.j0 k bt630.1 bt639.1 false bt615.1 bt639.2.1 bt639.2.2 bt619.1 bt619.2.1 bt619.2.2.1 bt619.2.2.2.1)))))
theorem spec_DrawFindSum.mono_l : ∀ k, (∀ y0 y1 y2 y3 y4 y5 y6 y7 y8 y9, LeO (spec_DrawFindSum.j0 k y0 y1 y2 y3 y4 y5 y6 y7 y8 y9) (spec_DrawFindSum.j0 (k + 1) y0 y1 y2 y3 y4 y5 y6 y7 y8 y9))
  | 0 => fun _ _ _ _ _ _ _ _ _ _ r h => by simp [spec_DrawFindSum.j0] at h
  | k + 1 => by
    have m0_ := @spec_SumOf.mono
    have m1_ := @spec_l1New.mono
    have m2_ := @spec_l3Bytes.mono
    have m3_ := @spec_l6Draw.mono
    have m4_ := @spec_l7Old.mono
    have ih0 := spec_DrawFindSum.mono_l k
    · intro y0 y1 y2 y3 y4 y5 y6 y7 y8 y9
      unfold spec_DrawFindSum.j0
      exact LM
theorem spec_DrawFindSum.mono : ∀ a0 k, LeO (spec_DrawFindSum.f k a0) (spec_DrawFindSum.f (k + 1) a0) := by
  intro a0 k
  have m0_ := @spec_SumOf.mono
  have m1_ := @spec_l1New.mono
  have m2_ := @spec_l3Bytes.mono
  have m3_ := @spec_l6Draw.mono
  have m4_ := @spec_l7Old.mono
  have ih0 := spec_DrawFindSum.mono_l k
  unfold spec_DrawFindSum.f
  exact LM
def spec_DrawFindSum.T6 : Bool × List (List Nat × List Nat) := (true, [([], []), ([], []), ([1], [1]), ([], []), ([2, 3], [2, 3]), ([4], [4]), ([], []), ([0, 0], [0]), ([5, 7, 0, 1, 2, 3, 4, 5, 7], [5]), ([6, 8, 0, 1, 2, 3, 4, 5, 6, 7, 8], [6])])
def spec_DrawFindSum.B6 : List Nat := [0, 0, 2, 0, 14, 30, 0, 1, 191, 511]
theorem spec_DrawFindSum.tab6 : rtab .any (opsOf Try.f24 6) = spec_DrawFindSum.T6 := by kernel_rfl
theorem spec_DrawFindSum.bits6 : waitsOk spec_DrawFindSum.T6.2 spec_DrawFindSum.B6 = true := by kernel_rfl
set_option maxHeartbeats 40000000 in
set_option maxRecDepth 100000 in
theorem spec_DrawFindSum.calls (k : Nat) (A0 : Option Addr) (c0 : Nat) (l0 : List Int) (r1 : List Int) (r2 : Int) (r3 : Int) (r4 : Int) (w : World) (hr0 : Kd.C (Kd.int .u8) w A0 l0.length l0) (hc0 : l0.length ≤ c0) (h : spec_DrawFindSum.f k l0 = some (r1, r2, r3, r4)) :
  Calls Try.prog 24 #[.slice A0 l0.length c0] w fun e w' => ∃ v0_ : Value, e = .returned (.tuple #[v0_, .agg #[.int .i64 r2, .int .i64 r3], .int .i64 r4]) ∧ Kd.R (Kd.int .u8) 5 w' w.heap.size (fun _ => True) v0_ r1 ∧ Below w.heap.size w w' := by
 have hu48 := Try.underlying48
 have hu28 := Try.underlying28
 have HR0 := aM hr0
 have HC0 := aM hc0
 clear hr0 hc0
 have HB := aM (Below.refl w.heap.size w)
 have H := h
 clear h
 unfold spec_DrawFindSum.f at H
 replace H := bE H
 obtain ⟨⟨ag, t616, t617⟩, A2, H⟩ := H
 dsimp only at H
 replace H := bE H
 obtain ⟨⟨am, ak, al, ae, t625, t628, t629⟩, A3, H⟩ := H
 dsimp only at H
 replace H := bE H
 obtain ⟨⟨aA, ao, ap⟩, A4, H⟩ := H
 dsimp only at H
 obtain ⟨y636, az⟩ : ∃ y_ : List Int, y_ = (([2, 3, 4, 0, 7] : List Int)) := ⟨_, rfl⟩
 rw [← az] at H
 have aG := aM az
 clear az
 replace H := bE H
 obtain ⟨⟨t639, au, ar⟩, A5, H⟩ := H
 dsimp only at H
 have HC6 := aM H
 clear H
 go_enter Try.func24, Try.ntmps24
 go_upto_region 3 with (first | ((with_reducible refine gate_dst (N := 3) rfl ?_); refine gBx 3 #[.int .i64 0, .int .i64 0] 48 ?_; intro ac hg w7 hbox hb; have af := aM (hbox); have GW614 := aM ((by rw [hg]; exact (below_size TB) : w.heap.size ≤ ac)); have GE614 := aM ((by rw [hg]; exact (below_size TB) : w.heap.size ≤ ac)); replace HB := aM (below_step TB hb); clear hb hbox hg) | ((with_reducible refine gate_callee (f := 73) rfl ?_); refine gL (some 12) Try.func73 #[.slice A0 l0.length c0] ?_; (with_reducible refine (spec_l7Pair.calls k _ _ l0 ag t616 t617 am ak al ae t625 t628 t629 aA ao ap w _ ?side1 ?side2 ?side3 A2.out A3.out A4.out).mono ?_); (case side1 => repeat (first | (with_reducible first | exact HB.out | apply below_alloc | apply pw_below_drewN | apply below_drew1 | refine below_set ?_ GE614.out) | exact HB.out)); (case side2 => exact HR0.out); (case side3 => exact HC0.out); rintro e w8 ⟨g618, v631, v623, v626, rfl, hi, ho0, ho1, ho2, hb, hb2⟩; refine ⟨_, rfl, ?_⟩; have HO624 := aM (Kd.R_lower (Kd.R_newB ho1 (g := ac) (o := .cells #[.int .i64 0, .int .i64 0] 48 (0, 0)) TK) (below_size (by repeat (first | (with_reducible first | exact HB.out | apply below_alloc | apply pw_below_drewN | apply below_drew1 | refine below_set ?_ (IsS108.ge aa.out) | refine below_set ?_ GE614.out) | exact HB.out)))); have HO627 := aM (Kd.R_mono (ok' := fun k_ => True ∧ some k_ ≠ v631.ownBlock) (Kd.R_lower ho2 (below_size (by repeat (first | (with_reducible first | exact HB.out | apply below_alloc | apply pw_below_drewN | apply below_drew1 | refine below_set ?_ (IsS108.ge aa.out) | refine below_set ?_ GE614.out) | exact HB.out)))) (fun _ h_ => ⟨trivial, h_⟩)); have HO632 := aM (Kd.R_mono (ok' := fun k_ => True ∧ some k_ ≠ v626.ownBlock) (Kd.R_lower ho0 (below_size (by repeat (first | (with_reducible first | exact HB.out | apply below_alloc | apply pw_below_drewN | apply below_drew1 | refine below_set ?_ (IsS108.ge aa.out) | refine below_set ?_ GE614.out) | exact HB.out)))) (fun _ h_ => ⟨trivial, h_⟩)); have aa := aM (hi); have NB618_614 := aM (IsS108.ne_blk hi (blk_below (g := ac) (o := .cells #[.int .i64 0, .int .i64 0] 48 (0, 0)) TK hb2) (by decide)); have NB614_618 := aM (Ne.symm (IsS108.ne_blk hi (blk_below (g := ac) (o := .cells #[.int .i64 0, .int .i64 0] 48 (0, 0)) TK hb2) (by decide))); replace af := aM (blk_below (g := ac) (o := .cells #[.int .i64 0, .int .i64 0] 48 (0, 0)) TK hb2); replace HB := aM (hb); clear hi hb hb2 ho0 ho1 ho2; obtain ⟨Ao10, co10, eo10⟩ := Kd.R_slice HO627.out; subst eo10) | ((with_reducible refine gate_dst (N := 7) rfl ?_); refine gBx 7 #[.int .i64 0, .int .i64 0, .int .i64 0, .slice none 0 0] 28 ?_; intro gb635 hg w12 hbox hb; have ad := aM (hbox); have GW635 := aM ((by rw [hg]; exact (below_size (by repeat (first | (with_reducible first | exact HB.out | apply below_alloc | apply pw_below_drewN | apply below_drew1 | refine below_set ?_ (IsS108.ge aa.out) | refine below_set ?_ GE614.out) | exact HB.out))) : w.heap.size ≤ gb635)); have GE635 := aM ((by rw [hg]; exact (below_size (by repeat (first | (with_reducible first | exact HB.out | apply below_alloc | apply pw_below_drewN | apply below_drew1 | refine below_set ?_ (IsS108.ge aa.out) | refine below_set ?_ GE614.out) | exact HB.out))) : w.heap.size ≤ gb635)); have NB614_635 := aM ((by rw [hg]; exact Nat.ne_of_lt (blk_lt (g := ac) (o := .cells #[.int .i64 0, .int .i64 0] 48 (0, 0)) TK) : ac ≠ gb635)); have NB635_614 := aM ((by rw [hg]; exact Nat.ne_of_gt (blk_lt (g := ac) (o := .cells #[.int .i64 0, .int .i64 0] 48 (0, 0)) TK) : gb635 ≠ ac)); have NB618_635 := aM ((by rw [hg]; exact Nat.ne_of_lt (IsS108.lt (show IsS108 w _ g618 ag ao ap from by repeat (first | (with_reducible first | exact aa.out | apply IsS108.alloc | apply IsS108.drewN | apply IsS108.drew | apply IsS108.set_1 | apply IsS108.set_2 | refine IsS108.far ?_ NB618_614.out _) | exact aa.out))) : g618 ≠ gb635)); have NB635_618 := aM ((by rw [hg]; exact Nat.ne_of_gt (IsS108.lt (show IsS108 w _ g618 ag ao ap from by repeat (first | (with_reducible first | exact aa.out | apply IsS108.alloc | apply IsS108.drewN | apply IsS108.drew | apply IsS108.set_1 | apply IsS108.set_2 | refine IsS108.far ?_ NB618_614.out _) | exact aa.out))) : gb635 ≠ g618)); replace HO624 := aM (Kd.R_below (by have X_ := HO624.out; exact TR) hb); replace HO627 := aM (Kd.R_below (by have X_ := HO627.out; exact TR) hb); replace HO632 := aM (Kd.R_below (by have X_ := HO632.out; exact TR) hb); replace af := aM (blk_below (g := ac) (o := .cells #[.int .i64 0, .int .i64 0] 48 (0, 0)) TK hb); replace HB := aM (below_step (by repeat (first | (with_reducible first | exact HB.out | apply below_alloc | apply pw_below_drewN | apply below_drew1 | refine below_set ?_ (IsS108.ge aa.out) | refine below_set ?_ GE614.out) | exact HB.out)) hb); replace aa := aM (IsS108.below (by repeat (first | (with_reducible first | exact aa.out | apply IsS108.alloc | apply IsS108.drewN | apply IsS108.drew | apply IsS108.set_1 | apply IsS108.set_2 | refine IsS108.far ?_ NB618_614.out _) | exact aa.out)) hb); clear hb hbox hg; have hnb13 := NB635_614.out; have hnc13 := NB614_635.out; have hnb14 := NB635_618.out; have hnc14 := NB618_635.out; obtain ⟨aK, aI, aQ, a2⟩ := cz4 ad.out; obtain ⟨a7, aY, a4, aP⟩ := fz4 ad.out; obtain ⟨Ao16, co16, eo16⟩ := Kd.R_slice HO624.out; subst eo16) | ((with_reducible refine gate_dst (N := 17) rfl ?_); refine Kd.R_lit (Kd.int .i64) _ 3 ?hg (N := 17) ?hd (xs := ([2, 3, 4, 0, 7] : List Int)) (inner := [.int .i64 2, .int .i64 3, .int .i64 4, .int .i64 0, .int .i64 7]) (ok := fun _ => True) (okp := fun _ => True) ?hr ?hp (fun _ hk => hk) trivial (Below.refl _ _) (Nat.le_refl _) (by simp) ?_; (case hd => rfl); (case hg => rfl); (case hr => first | (go_simp; done) | (go_simp; rfl)); (case hp => exact (Reps.one (show Kd.M (Kd.int .i64) _ _ _ 2 [.int .i64 2] from rfl) (Reps.one (show Kd.M (Kd.int .i64) _ _ _ 3 [.int .i64 3] from rfl) (Reps.one (show Kd.M (Kd.int .i64) _ _ _ 4 [.int .i64 4] from rfl) (Reps.one (show Kd.M (Kd.int .i64) _ _ _ 0 [.int .i64 0] from rfl) (Reps.one (show Kd.M (Kd.int .i64) _ _ _ 7 [.int .i64 7] from rfl) (Reps.none _ _))))))); intro v637 w17 ho18 hb hg_ hnew_; clear hg_ hnew_; (first | rw [← aG.out] at ho18 | (simp only [Int.reduceToNat] at ho18; rw [← aG.out] at ho18)); have HO638 := aM (Kd.R_lower ho18 (below_size (by repeat (first | (with_reducible first | exact HB.out | apply below_alloc | apply pw_below_drewN | apply below_drew1 | refine below_set ?_ (IsS108.ge aa.out) | refine below_set ?_ GE614.out | refine below_set ?_ GE635.out) | exact HB.out)))); replace HO624 := aM (Kd.R_below (by (with_reducible repeat (first | apply Kd.R_alloc | apply Kd.R_drewN | apply Kd.R_drew)); exact (R_off (Kd.R_types HO624.out ad.out (by decide)) TO)) hb); replace HO627 := aM (Kd.R_below (by (with_reducible repeat (first | apply Kd.R_alloc | apply Kd.R_drewN | apply Kd.R_drew)); exact (R_off (Kd.R_types HO627.out ad.out (by decide)) TO)) hb); replace HO632 := aM (Kd.R_below (by (with_reducible repeat (first | apply Kd.R_alloc | apply Kd.R_drewN | apply Kd.R_drew)); exact (R_off (Kd.R_types HO632.out ad.out (by decide)) TO)) hb); replace af := aM (blk_below (g := ac) (o := .cells #[.int .i64 0, .int .i64 0] 48 (0, 0)) (by (with_reducible repeat (first | refine blk_drewN ?_ _ | refine blk_drew ?_ | refine blk_alloc ?_ _)); refine blk_far ?_ NB614_635.out _; (with_reducible repeat (first | refine blk_drewN ?_ _ | refine blk_drew ?_ | refine blk_alloc ?_ _)); refine blk_far ?_ NB614_635.out _; (with_reducible repeat (first | refine blk_drewN ?_ _ | refine blk_drew ?_ | refine blk_alloc ?_ _)); refine blk_far ?_ NB614_635.out _; (with_reducible repeat (first | refine blk_drewN ?_ _ | refine blk_drew ?_ | refine blk_alloc ?_ _)); refine blk_far ?_ NB614_635.out _; (with_reducible repeat (first | refine blk_drewN ?_ _ | refine blk_drew ?_ | refine blk_alloc ?_ _)); exact af.out) hb); replace ad := aM (blk_below (g := gb635) (o := .cells #[.int .i64 am, .int .i64 ak, .int .i64 al, .slice Ao16 ae.length co16] 28 (0, 0)) (by (with_reducible repeat (first | refine blk_drewN ?_ _ | refine blk_drew ?_ | refine blk_alloc ?_ _)); refine blk_put (cs := #[.int .i64 am, .int .i64 ak, .int .i64 al, .slice none 0 0]) ?_ 3 _ rfl; (with_reducible repeat (first | refine blk_drewN ?_ _ | refine blk_drew ?_ | refine blk_alloc ?_ _)); refine blk_put (cs := #[.int .i64 am, .int .i64 ak, .int .i64 0, .slice none 0 0]) ?_ 2 _ rfl; (with_reducible repeat (first | refine blk_drewN ?_ _ | refine blk_drew ?_ | refine blk_alloc ?_ _)); refine blk_put (cs := #[.int .i64 am, .int .i64 0, .int .i64 0, .slice none 0 0]) ?_ 1 _ rfl; (with_reducible repeat (first | refine blk_drewN ?_ _ | refine blk_drew ?_ | refine blk_alloc ?_ _)); refine blk_put (cs := #[.int .i64 0, .int .i64 0, .int .i64 0, .slice none 0 0]) ?_ 0 _ rfl; (with_reducible repeat (first | refine blk_drewN ?_ _ | refine blk_drew ?_ | refine blk_alloc ?_ _)); exact ad.out) hb); replace HB := aM (below_step (by repeat (first | (with_reducible first | exact HB.out | apply below_alloc | apply pw_below_drewN | apply below_drew1 | refine below_set ?_ (IsS108.ge aa.out) | refine below_set ?_ GE614.out | refine below_set ?_ GE635.out) | exact HB.out)) hb); replace aa := aM (IsS108.below (show IsS108 w ((((w12.setCell ⟨gb635, 0, none⟩ (.int .i64 am)).setCell ⟨gb635, 1, none⟩ (.int .i64 ak)).setCell ⟨gb635, 2, none⟩ (.int .i64 al)).setCell ⟨gb635, 3, none⟩ (.slice Ao16 ae.length co16)) g618 ag ao ap from by repeat (first | (with_reducible first | exact aa.out | apply IsS108.alloc | apply IsS108.drewN | apply IsS108.drew | apply IsS108.set_1 | apply IsS108.set_2 | refine IsS108.far ?_ NB618_614.out _ | refine IsS108.far ?_ NB618_635.out _) | exact aa.out)) hb); clear hb ho18; obtain ⟨Ao19, co19, eo19⟩ := Kd.R_slice HO638.out; subst eo19) | ((with_reducible refine gate_callee (f := 74) rfl ?_); refine gL (some 18) Try.func74 #[.pointer (some ⟨g618, 0, none⟩), .slice Ao19 y636.length co19] ?_; (with_reducible refine (spec_l1Int.calls g618 ag ao ap _ _ y636 t639 au ar w _ ?side1 ?side2 ?side3 ?side4 ?side5 A5.out).mono ?_); (case side1 => repeat (first | (with_reducible first | exact aa.out | apply IsS108.alloc | apply IsS108.drewN | apply IsS108.drew | apply IsS108.set_1 | apply IsS108.set_2 | refine IsS108.far ?_ NB618_614.out _ | refine IsS108.far ?_ NB618_635.out _) | exact aa.out)); (case side2 => repeat (first | (with_reducible first | exact HB.out | apply below_alloc | apply pw_below_drewN | apply below_drew1 | refine below_set ?_ (IsS108.ge aa.out) | refine below_set ?_ GE614.out | refine below_set ?_ GE635.out) | exact HB.out)); (case side3 => have X_ := (Kd.R_reads' HO638.out).2.2; exact TC); (case side4 => exact (Kd.R_reads' HO638.out).2.1); (case side5 => exact far_slice (IsS108.own_ne aa.out HO638.out (by decide))); rintro e w20 ⟨rfl, hi, hb, hk⟩; refine ⟨_, rfl, ?_⟩; replace af := aM (KeepBut.blk hk (g' := ac) (o := .cells #[.int .i64 0, .int .i64 0] 48 (0, 0)) TK NB614_618.out (by simp)); replace HO624 := aM (Kd.R_mono (Kd.R_keep (IsS108.apart (show IsS108 w _ g618 ag ao ap from by repeat (first | (with_reducible first | exact aa.out | apply IsS108.alloc | apply IsS108.drewN | apply IsS108.drew | apply IsS108.set_1 | apply IsS108.set_2 | refine IsS108.far ?_ NB618_614.out _ | refine IsS108.far ?_ NB618_635.out _) | exact aa.out)) (by have X_ := HO624.out; exact TR) (by decide)) hk (fun _ h => h.2)) (fun _ h => h.1)); replace HO627 := aM (Kd.R_mono (Kd.R_keep (IsS108.apart (show IsS108 w _ g618 ag ao ap from by repeat (first | (with_reducible first | exact aa.out | apply IsS108.alloc | apply IsS108.drewN | apply IsS108.drew | apply IsS108.set_1 | apply IsS108.set_2 | refine IsS108.far ?_ NB618_614.out _ | refine IsS108.far ?_ NB618_635.out _) | exact aa.out)) (by have X_ := HO627.out; exact TR) (by decide)) hk (fun _ h => h.2)) (fun _ h => h.1)); replace HO632 := aM (Kd.R_mono (Kd.R_keep (IsS108.apart (show IsS108 w _ g618 ag ao ap from by repeat (first | (with_reducible first | exact aa.out | apply IsS108.alloc | apply IsS108.drewN | apply IsS108.drew | apply IsS108.set_1 | apply IsS108.set_2 | refine IsS108.far ?_ NB618_614.out _ | refine IsS108.far ?_ NB618_635.out _) | exact aa.out)) (by have X_ := HO632.out; exact TR) (by decide)) hk (fun _ h => h.2)) (fun _ h => h.1)); replace ad := aM (KeepBut.blk hk (g' := gb635) (o := .cells #[.int .i64 am, .int .i64 ak, .int .i64 al, .slice Ao16 ae.length co16] 28 (0, 0)) TK NB635_618.out (by simp)); replace HO638 := aM (Kd.R_mono (Kd.R_keep (IsS108.apart (show IsS108 w _ g618 ag ao ap from by repeat (first | (with_reducible first | exact aa.out | apply IsS108.alloc | apply IsS108.drewN | apply IsS108.drew | apply IsS108.set_1 | apply IsS108.set_2 | refine IsS108.far ?_ NB618_614.out _ | refine IsS108.far ?_ NB618_635.out _) | exact aa.out)) (by have X_ := HO638.out; exact TR) (by decide)) hk (fun _ h => h.2)) (fun _ h => h.1)); replace HB := aM (hb); replace aa := aM (hi); (try clear hb); (try clear hb2); (try clear hk); (try clear hi)))
 (try simp only [Act.put, List.setIfInBounds_toArray, List.set_cons_zero, List.set_cons_succ])
 go_cut [27] (fun v27 wc => ∃ (kq : Nat) (av : Bool) (ai : Int) (ah : Int), v27 = .bool av ∧ Aside0 (spec_DrawFindSum.j0 kq aA t639 av ag ai ah am ak al ae = some (r1, r2, r3, r4)) ∧ Aside0 (kq ≤ k) ∧ Aside0 (Kd.R (Kd.int .u8) 5 wc w.heap.size (fun _ => True) v631 aA) ∧ Aside0 (Kd.R k48 48 wc w.heap.size (fun k_ => k_ ≠ ac) (.slice Ao16 ae.length co16) ae) ∧ Aside0 (wc.heap[ac]? = some (.cells #[.int .i64 0, .int .i64 0] 48 (0, 0))) ∧ Aside0 (wc.heap[gb635]? = some (.cells #[.int .i64 am, .int .i64 ak, .int .i64 al, (.slice Ao16 ae.length co16)] 28 (0, 0))) ∧ Aside0 (IsS108 w wc g618 ag ai ah) ∧ Aside0 (Below w.heap.size w wc))
 case first =>
  have H := HC6.out
  clear HC6
  by_cases c21 : (ae.length : Int) > 0
  ·rw [if_pos c21] at H
   have aq : decide (0 < (ae.length : Int)) = true := decide_eq_true c21
   have aH : decide (0 < ae.length) = true := decide_eq_true (by omega)
   clear c21
   (first | rw [aq] | (simp only [i64_w, i32_w]; rw [aq]) | skip)
   replace H := bE H
   obtain ⟨⟨t642, t643, t644⟩, A22, H⟩ := H
   dsimp only at H
   have H' := aM H
   clear H
   have hnb23 := NB635_614.out
   have hnc23 := NB614_635.out
   have hnb24 := NB635_618.out
   have hnc24 := NB618_635.out
   obtain ⟨a3, aU, aJ, aV⟩ := cz4 ad.out
   obtain ⟨aL, a5, aX, aR⟩ := fz4 ad.out
   go_wp2_with (first | (go_at_call 75; (with_reducible refine (spec_l1Once.calls g618 ag au ar 4 t642 t643 t644 w _ ?side1 ?side2 A22.out).mono ?_); (case side1 => repeat (first | (with_reducible first | exact aa.out | apply IsS108.alloc | apply IsS108.drewN | apply IsS108.drew | apply IsS108.set_1 | apply IsS108.set_2 | refine IsS108.far ?_ NB618_614.out _ | refine IsS108.far ?_ NB618_635.out _) | exact aa.out)); (case side2 => repeat (first | (with_reducible first | exact HB.out | apply below_alloc | apply pw_below_drewN | apply below_drew1 | refine below_set ?_ (IsS108.ge aa.out) | refine below_set ?_ GE614.out | refine below_set ?_ GE635.out) | exact HB.out)); rintro e w26 ⟨rfl, hi, hb, hk⟩; replace af := aM (KeepBut.blk hk (g' := ac) (o := .cells #[.int .i64 0, .int .i64 0] 48 (0, 0)) TK NB614_618.out (by simp)); replace HO624 := aM (Kd.R_mono (Kd.R_keep (IsS108.apart (show IsS108 w _ g618 ag au ar from by repeat (first | (with_reducible first | exact aa.out | apply IsS108.alloc | apply IsS108.drewN | apply IsS108.drew | apply IsS108.set_1 | apply IsS108.set_2 | refine IsS108.far ?_ NB618_614.out _ | refine IsS108.far ?_ NB618_635.out _) | exact aa.out)) (by have X_ := HO624.out; exact TR) (by decide)) hk (fun _ h => h.2)) (fun _ h => h.1)); replace HO627 := aM (Kd.R_mono (Kd.R_keep (IsS108.apart (show IsS108 w _ g618 ag au ar from by repeat (first | (with_reducible first | exact aa.out | apply IsS108.alloc | apply IsS108.drewN | apply IsS108.drew | apply IsS108.set_1 | apply IsS108.set_2 | refine IsS108.far ?_ NB618_614.out _ | refine IsS108.far ?_ NB618_635.out _) | exact aa.out)) (by have X_ := HO627.out; exact TR) (by decide)) hk (fun _ h => h.2)) (fun _ h => h.1)); replace HO632 := aM (Kd.R_mono (Kd.R_keep (IsS108.apart (show IsS108 w _ g618 ag au ar from by repeat (first | (with_reducible first | exact aa.out | apply IsS108.alloc | apply IsS108.drewN | apply IsS108.drew | apply IsS108.set_1 | apply IsS108.set_2 | refine IsS108.far ?_ NB618_614.out _ | refine IsS108.far ?_ NB618_635.out _) | exact aa.out)) (by have X_ := HO632.out; exact TR) (by decide)) hk (fun _ h => h.2)) (fun _ h => h.1)); replace ad := aM (KeepBut.blk hk (g' := gb635) (o := .cells #[.int .i64 am, .int .i64 ak, .int .i64 al, .slice Ao16 ae.length co16] 28 (0, 0)) TK NB635_618.out (by simp)); replace HO638 := aM (Kd.R_mono (Kd.R_keep (IsS108.apart (show IsS108 w _ g618 ag au ar from by repeat (first | (with_reducible first | exact aa.out | apply IsS108.alloc | apply IsS108.drewN | apply IsS108.drew | apply IsS108.set_1 | apply IsS108.set_2 | refine IsS108.far ?_ NB618_614.out _ | refine IsS108.far ?_ NB618_635.out _) | exact aa.out)) (by have X_ := HO638.out; exact TR) (by decide)) hk (fun _ h => h.2)) (fun _ h => h.1)); replace HB := aM (hb); replace aa := aM (hi); (try clear hb); (try clear hb2); (try clear hk); (try clear hi)))
   go_meet
   case rel => exact ⟨_, (!t642), (t643), (t644), (by first | rfl | (simp; done) | (simp [*]; done)), H', ⟨by first | omega | exact Nat.le_refl _⟩, ⟨by (with_reducible repeat (first | apply Kd.R_alloc | apply Kd.R_drewN | apply Kd.R_drew)); exact Kd.R_mono HO632.out (fun _ hk => trivial)⟩, ⟨by (with_reducible repeat (first | apply Kd.R_alloc | apply Kd.R_drewN | apply Kd.R_drew)); exact Kd.R_mono HO624.out (fun _ hk => hk.2)⟩, ⟨TK⟩, ⟨TK⟩, ⟨by repeat (first | (with_reducible first | exact aa.out | apply IsS108.alloc | apply IsS108.drewN | apply IsS108.drew | apply IsS108.set_1 | apply IsS108.set_2 | refine IsS108.far ?_ NB618_614.out _ | refine IsS108.far ?_ NB618_635.out _) | exact aa.out)⟩, ⟨by repeat (first | (with_reducible first | exact HB.out | apply below_alloc | apply pw_below_drewN | apply below_drew1 | refine below_set ?_ (IsS108.ge aa.out) | refine below_set ?_ GE614.out | refine below_set ?_ GE635.out) | exact HB.out)⟩⟩
  ·rw [if_neg c21] at H
   have aq : decide (0 < (ae.length : Int)) = false := decide_eq_false c21
   have aH : decide (0 < ae.length) = false := decide_eq_false (by omega)
   clear c21
   (first | rw [aq] | (simp only [i64_w, i32_w]; rw [aq]) | skip)
   have H' := aM H
   clear H
   have hnb27 := NB635_614.out
   have hnc27 := NB614_635.out
   have hnb28 := NB635_618.out
   have hnc28 := NB618_635.out
   obtain ⟨aW, aS, a6, a1⟩ := cz4 ad.out
   obtain ⟨aT, aO, aZ, aN⟩ := fz4 ad.out
   go_wp2
   go_meet
   case rel => exact ⟨_, (false), (au), (ar), (by first | rfl | (simp; done) | (simp [*]; done)), H', ⟨by first | omega | exact Nat.le_refl _⟩, ⟨by (with_reducible repeat (first | apply Kd.R_alloc | apply Kd.R_drewN | apply Kd.R_drew)); exact Kd.R_mono HO632.out (fun _ hk => trivial)⟩, ⟨by (with_reducible repeat (first | apply Kd.R_alloc | apply Kd.R_drewN | apply Kd.R_drew)); exact Kd.R_mono HO624.out (fun _ hk => hk.2)⟩, ⟨TK⟩, ⟨TK⟩, ⟨by repeat (first | (with_reducible first | exact aa.out | apply IsS108.alloc | apply IsS108.drewN | apply IsS108.drew | apply IsS108.set_1 | apply IsS108.set_2 | refine IsS108.far ?_ NB618_614.out _ | refine IsS108.far ?_ NB618_635.out _) | exact aa.out)⟩, ⟨by repeat (first | (with_reducible first | exact HB.out | apply below_alloc | apply pw_below_drewN | apply below_drew1 | refine below_set ?_ (IsS108.ge aa.out) | refine below_set ?_ GE614.out | refine below_set ?_ GE635.out) | exact HB.out)⟩⟩
 case rest =>
  clear HC6
  try clear c1
  try clear c2
  try clear p2
  try clear c5
  try clear c7
  try clear c11
  try clear c13
  try clear c14
  try clear c21
  try clear aq
  try clear aH
  try clear c23
  try clear c24
  try clear c27
  try clear c28
  try clear aK
  try clear aI
  try clear aQ
  try clear a2
  try clear a3
  try clear aU
  try clear aJ
  try clear aV
  try clear aW
  try clear aS
  try clear a6
  try clear a1
  try clear a7
  try clear aY
  try clear a4
  try clear aP
  try clear aL
  try clear a5
  try clear aX
  try clear aR
  try clear aT
  try clear aO
  try clear aZ
  try clear aN
  obtain ⟨kq, av, ai, ah, rfl, HA, HJ5, an, ab, af, ad, aa, HB⟩ := hcut
  cases kq with
  | zero => exact absurd HA.out (by simp [spec_DrawFindSum.j0])
  | succ kj5 =>
   have H := HA.out
   clear HA
   simp only [spec_DrawFindSum.j0] at H
   by_cases c30 : av = true
   ·subst c30
    replace H := ifT H
    replace H := bE H
    obtain ⟨⟨aj, t646, t647⟩, A31, H⟩ := H
    dsimp only at H
    replace H := bE H
    obtain ⟨⟨t648, t649⟩, A32, H⟩ := H
    dsimp only at H
    replace H := ifN H
    obtain ⟨c33, H⟩ := H
    have c33b0 : decide (0 ≤ aj) = true := decide_eq_true c33
    clear c33
    replace H := ifN H
    obtain ⟨c34, H⟩ := H
    have c34b0 : decide (aj < (ae.length : Int)) = true := decide_eq_true c34
    clear c34
    simp only [Option.some.injEq, Prod.mk.injEq] at H
    obtain ⟨rfl, rfl, rfl, rfl⟩ := H
    have hnb35 := NB635_614.out
    have hnc35 := NB614_635.out
    have hnb36 := NB635_618.out
    have hnc36 := NB618_635.out
    obtain ⟨hcz37_0, hcz37_1, hcz37_2, hcz37_3⟩ := cz4 ad.out
    obtain ⟨hfz37_0, hfz37_1, hfz37_2, hfz37_3⟩ := fz4 ad.out
    try go_wp2_with (first | ((with_reducible refine gate_callee (f := 60) rfl ?_); refine gL (some 32) Try.func60 #[.pointer (some ⟨g618, 0, none⟩), .int .i64 (ae.length : Int)] ?_; (with_reducible refine (spec_l1Below.calls g618 ag ai ah (ae.length : Int) aj t646 t647 w _ ?side1 ?side2 A31.out).mono ?_); (case side1 => repeat (first | (with_reducible first | exact aa.out | apply IsS108.alloc | apply IsS108.drewN | apply IsS108.drew | apply IsS108.set_1 | apply IsS108.set_2 | refine IsS108.far ?_ NB618_614.out _ | refine IsS108.far ?_ NB618_635.out _) | exact aa.out)); (case side2 => repeat (first | (with_reducible first | exact HB.out | apply below_alloc | apply pw_below_drewN | apply below_drew1 | refine below_set ?_ (IsS108.ge aa.out) | refine below_set ?_ GE614.out | refine below_set ?_ GE635.out) | exact HB.out)); rintro e w38 ⟨rfl, hi, hb, hk⟩; refine ⟨_, rfl, ?_⟩; replace an := aM (Kd.R_mono (Kd.R_keep (IsS108.apart (show IsS108 w _ g618 ag ai ah from by repeat (first | (with_reducible first | exact aa.out | apply IsS108.alloc | apply IsS108.drewN | apply IsS108.drew | apply IsS108.set_1 | apply IsS108.set_2 | refine IsS108.far ?_ NB618_614.out _ | refine IsS108.far ?_ NB618_635.out _) | exact aa.out)) (by have X_ := an.out; exact TR) (by decide)) hk (fun _ h => h.2)) (fun _ h => h.1)); replace ab := aM (Kd.R_mono (Kd.R_keep (IsS108.apart (show IsS108 w _ g618 ag ai ah from by repeat (first | (with_reducible first | exact aa.out | apply IsS108.alloc | apply IsS108.drewN | apply IsS108.drew | apply IsS108.set_1 | apply IsS108.set_2 | refine IsS108.far ?_ NB618_614.out _ | refine IsS108.far ?_ NB618_635.out _) | exact aa.out)) (by have X_ := ab.out; exact TR) (by decide)) hk (fun _ h => h.2)) (fun _ h => h.1)); replace af := aM (KeepBut.blk hk (g' := ac) (o := .cells #[.int .i64 0, .int .i64 0] 48 (0, 0)) TK NB614_618.out (by simp)); replace ad := aM (KeepBut.blk hk (g' := gb635) (o := .cells #[.int .i64 am, .int .i64 ak, .int .i64 al, .slice Ao16 ae.length co16] 28 (0, 0)) TK NB635_618.out (by simp)); replace HB := aM (hb); replace aa := aM (hi); (try clear hb); (try clear hb2); (try clear hk); (try clear hi); obtain ⟨hcz39_0, hcz39_1, hcz39_2, hcz39_3⟩ := cz4 ad.out; obtain ⟨hfz39_0, hfz39_1, hfz39_2, hfz39_3⟩ := fz4 ad.out) | ((with_reducible refine gate_callee (f := 76) rfl ?_); refine gL (some 39) Try.func76 #[.int .i64 ak, .int .i64 al, .int .i64 aj] ?_; (with_reducible refine (spec_SpanOf.calls ak al aj t648 t649 _ A32.out).mono ?_); rintro e w' ⟨rfl, ⟨nd, rfl⟩⟩; refine ⟨_, rfl, ?_⟩; (try (rw [drewN_self w38]; generalize hq_ : World.drewN w38 _ = w38; have n0_ : Aside0 (Kd.R (Kd.int .u8) 5 w38 w.heap.size (fun _ => True) v631 aA) := ⟨by rw [← hq_]; exact (by have X_ := an.out; exact TR)⟩; have n1_ : Aside0 (Kd.R k48 48 w38 w.heap.size (fun k_ => k_ ≠ ac) (.slice Ao16 ae.length co16) ae) := ⟨by rw [← hq_]; exact (by have X_ := ab.out; exact TR)⟩; have n2_ : Aside0 (w38.heap[ac]? = some (.cells #[.int .i64 0, .int .i64 0] 48 (0, 0))) := ⟨by rw [← hq_]; exact TK⟩; have n3_ : Aside0 (w38.heap[gb635]? = some (.cells #[.int .i64 am, .int .i64 ak, .int .i64 al, .slice Ao16 ae.length co16] 28 (0, 0))) := ⟨by rw [← hq_]; exact TK⟩; have n4_ : Aside0 (IsS108 w w38 g618 ag t646 t647) := ⟨by rw [← hq_]; exact (by repeat (first | (with_reducible first | exact aa.out | apply IsS108.alloc | apply IsS108.drewN | apply IsS108.drew | apply IsS108.set_1 | apply IsS108.set_2 | refine IsS108.far ?_ NB618_614.out _ | refine IsS108.far ?_ NB618_635.out _) | exact aa.out))⟩; have n5_ : Aside0 (Below w.heap.size w w38) := ⟨by rw [← hq_]; exact (by repeat (first | (with_reducible first | exact HB.out | apply below_alloc | apply pw_below_drewN | apply below_drew1 | refine below_set ?_ (IsS108.ge aa.out) | refine below_set ?_ GE614.out | refine below_set ?_ GE635.out) | exact HB.out))⟩; clear an ab af ad aa HB hq_; have an := n0_; have ab := n1_; have af := n2_; have ad := n3_; have aa := n4_; have HB := n5_; clear n0_ n1_ n2_ n3_ n4_ n5_))))
    replace an := aM (Kd.R_drew an.out)
    replace ab := aM (Kd.R_drew ab.out)
    replace af := aM (blk_drew af.out)
    replace ad := aM (blk_drew ad.out)
    replace aa := aM (IsS108.drew aa.out)
    replace HB := aM (below_drew1 HB.out)
    have aD : 0 ≤ (aj : Int) := DT
    have aF : aj < (ae.length : Int) := DT
    obtain ⟨aw, e650, ay, ax⟩ := at_T48 (Kd.R_reads' ab.out).2.2 aj aD aF
    cases e650
    replace aD := eq_true aD
    replace aF := eq_true aF
    refine start_ (n := 10) (S := fun w' => w'.cell? ⟨gb635, 0, none⟩ = some (.int .i64 am) ∧ w'.cell? ⟨gb635, 1, none⟩ = some (.int .i64 ak) ∧ w'.cell? ⟨gb635, 2, none⟩ = some (.int .i64 al) ∧ w'.cell? ⟨gb635, 3, none⟩ = some (.slice (some aw) ae.length co16) ∧ w'.cell? (aw.add ((aj).toNat * 2)) = some (.int .i64 ((rd_T48 ae aj).f0)) ∧ w'.cell? ⟨(aw.add ((aj).toNat * 2)).block, (aw.add ((aj).toNat * 2)).off + 1, none⟩ = some (.int .i64 ((rd_T48 ae aj).f1))) (ds := []) (Array.replicate 10 false) (by kernel_rfl) rfl rfl ⟨(blk_cell ad.out 0).trans rfl, (blk_cell ad.out 1).trans rfl, (blk_cell ad.out 2).trans rfl, (blk_cell ad.out 3).trans rfl, ay, ax⟩ (fun hHeld => ?_); refine with_tabW spec_DrawFindSum.tab6 spec_DrawFindSum.bits6 (fun HT_ HW_ => ?_)
    generalize w38.drew = w40 at an ab af ad aa HB ay ax hHeld ⊢
    refine pP 0 (some 42) ?_
    refine pP 1 (some 43) ?_
    refine pP 3 (some 45) ?_
    refine pP 6 (some 48) ?_
    refine pP 7 (some 2) ?_
    refine pT 2 (some 44) ?_
    refine pP 4 (some 46) ?_
    refine pT 5 (some 47) ?_
    refine pO 8 none (fun K hK => ?_)
    have hs41 : w40.cell? ⟨ac, 0, none⟩ = some (.int .i64 0) := (blk_cell af.out 0).trans rfl
    have hfs41 := blk_frozen af.out 0
    have hns41_1 := NB635_614.out
    have hms41_1 := NB614_635.out
    have hs42 : w40.cell? ⟨ac, 1, none⟩ = some (.int .i64 0) := (blk_cell af.out 1).trans rfl
    have hfs42 := blk_frozen af.out 1
    have hns42_1 := NB635_614.out
    have hms42_1 := NB614_635.out
    refine skip_ (w1 := ?_) (by rfl) rfl ?_ ?_
    rotate_left
    ·go_simp
     rfl
    refine hK.out _ _ ⟨((cell_far (p := ⟨ac, _, none⟩) NB635_614.out _).trans (((cell_far (p := ⟨ac, _, none⟩) NB635_614.out _).trans (hHeld.1)))), ((cell_far (p := ⟨ac, _, none⟩) NB635_614.out _).trans (((cell_far (p := ⟨ac, _, none⟩) NB635_614.out _).trans (hHeld.2.1)))), ((cell_far (p := ⟨ac, _, none⟩) NB635_614.out _).trans (((cell_far (p := ⟨ac, _, none⟩) NB635_614.out _).trans (hHeld.2.2.1)))), ((cell_far (p := ⟨ac, _, none⟩) NB635_614.out _).trans (((cell_far (p := ⟨ac, _, none⟩) NB635_614.out _).trans (hHeld.2.2.2.1)))), ((cell_far (p := ⟨ac, _, none⟩) (by first | exact Kd.own_blk (Kd.R_away ab.out (fun _ hk => hk)) | (rw [add_block]; exact Kd.own_blk (Kd.R_away ab.out (fun _ hk => hk))) | (show (Addr.add _ _).block ≠ _; rw [add_block]; exact Kd.own_blk (Kd.R_away ab.out (fun _ hk => hk))) | (dsimp only; exact Kd.own_blk (Kd.R_away ab.out (fun _ hk => hk)))) _).trans (((cell_far (p := ⟨ac, _, none⟩) (by first | exact Kd.own_blk (Kd.R_away ab.out (fun _ hk => hk)) | (rw [add_block]; exact Kd.own_blk (Kd.R_away ab.out (fun _ hk => hk))) | (show (Addr.add _ _).block ≠ _; rw [add_block]; exact Kd.own_blk (Kd.R_away ab.out (fun _ hk => hk))) | (dsimp only; exact Kd.own_blk (Kd.R_away ab.out (fun _ hk => hk)))) _).trans (hHeld.2.2.2.2.1)))), ((cell_far (p := ⟨ac, _, none⟩) (by first | exact Kd.own_blk (Kd.R_away ab.out (fun _ hk => hk)) | (rw [add_block]; exact Kd.own_blk (Kd.R_away ab.out (fun _ hk => hk))) | (show (Addr.add _ _).block ≠ _; rw [add_block]; exact Kd.own_blk (Kd.R_away ab.out (fun _ hk => hk))) | (dsimp only; exact Kd.own_blk (Kd.R_away ab.out (fun _ hk => hk)))) _).trans (((cell_far (p := ⟨ac, _, none⟩) (by first | exact Kd.own_blk (Kd.R_away ab.out (fun _ hk => hk)) | (rw [add_block]; exact Kd.own_blk (Kd.R_away ab.out (fun _ hk => hk))) | (show (Addr.add _ _).block ≠ _; rw [add_block]; exact Kd.own_blk (Kd.R_away ab.out (fun _ hk => hk))) | (dsimp only; exact Kd.own_blk (Kd.R_away ab.out (fun _ hk => hk)))) _).trans (hHeld.2.2.2.2.2))))⟩ (fun hHeld => ?_)
    clear hK K
    refine pP 9 (some 4) ?_
    refine done_ (done_of HT_.out (by kernel_rfl)) ?_
    try go_wp2
    refine bodyPost_ret (results_list (rs := [.tmp 2, .cell 3 48, .tmp 4]) rfl (by simp) (.tmp (.cell ac 48 #[.int .i64 ((rd_T48 ae aj).f0), .int .i64 ((rd_T48 ae aj).f1)] (0, 0) _ rfl (by (with_reducible repeat (first | refine blk_drewN ?_ _ | refine blk_drew ?_ | refine blk_alloc ?_ _)); refine blk_put (cs := #[.int .i64 ((rd_T48 ae aj).f0), .int .i64 0]) ?_ 1 _ rfl; (with_reducible repeat (first | refine blk_drewN ?_ _ | refine blk_drew ?_ | refine blk_alloc ?_ _)); refine blk_put (cs := #[.int .i64 0, .int .i64 0]) ?_ 0 _ rfl; (with_reducible repeat (first | refine blk_drewN ?_ _ | refine blk_drew ?_ | refine blk_alloc ?_ _)); exact af.out) Try.underlying48 rfl (by kernel_rfl) (.tmp .nil)))) rfl ?_
    exact ⟨_, by first | rfl | (simp [errW_none, errW_some] <;> rfl) | (simp [*, errW_none, errW_some] <;> rfl), by (with_reducible repeat (first | apply Kd.R_alloc | apply Kd.R_drewN | apply Kd.R_drew)); exact Kd.R_mono (Kd.R_far (p := ⟨ac, 1, none⟩) (Kd.R_far (p := ⟨ac, 0, none⟩) (Kd.R_types an.out af.out (by decide)) (fun _ hk => hk.2) (.int .i64 ((rd_T48 ae aj).f0))) (fun _ hk => hk.2) (.int .i64 ((rd_T48 ae aj).f1))) (fun _ hk => trivial), by repeat (first | (with_reducible first | exact HB.out | apply below_alloc | apply pw_below_drewN | apply below_drew1 | refine below_set ?_ (IsS108.ge aa.out) | refine below_set ?_ GE614.out | refine below_set ?_ GE635.out) | exact HB.out)⟩
   ·replace c30 := Bool.eq_false_iff.mpr c30
    subst c30
    replace H := ifF H
    replace H := bE H
    obtain ⟨⟨aE, t654, t655⟩, A43, H⟩ := H
    dsimp only at H
    replace H := bE H
    obtain ⟨⟨aB, aC⟩, A44, H⟩ := H
    dsimp only at H
    simp only [Option.some.injEq, Prod.mk.injEq] at H
    obtain ⟨rfl, rfl, rfl, rfl⟩ := H
    go_wp2_with (first | ((with_reducible refine gate_callee (f := 78) rfl ?_); refine gL (some 51) Try.func78 #[.pointer (some ⟨g618, 0, none⟩), .int .i64 4] ?_; (with_reducible refine (spec_l3Bytes.calls kj5 g618 ag ai ah 4 aE t654 t655 w _ ?side1 ?side2 A43.out).mono ?_); (case side1 => repeat (first | (with_reducible first | exact aa.out | apply IsS108.alloc | apply IsS108.drewN | apply IsS108.drew | apply IsS108.set_1 | apply IsS108.set_2 | refine IsS108.far ?_ NB618_614.out _ | refine IsS108.far ?_ NB618_635.out _) | exact aa.out)); (case side2 => repeat (first | (with_reducible first | exact HB.out | apply below_alloc | apply pw_below_drewN | apply below_drew1 | refine below_set ?_ (IsS108.ge aa.out) | refine below_set ?_ GE614.out | refine below_set ?_ GE635.out) | exact HB.out)); rintro e w45 ⟨v652, rfl, ho0, hi, hb, hk⟩; refine ⟨_, rfl, ?_⟩; have HO653 := aM (Kd.R_lower (Kd.R_new' ho0 (Kd.R_lt (by have X_ := an.out; exact TR))) (below_size (by repeat (first | (with_reducible first | exact HB.out | apply below_alloc | apply pw_below_drewN | apply below_drew1 | refine below_set ?_ (IsS108.ge aa.out) | refine below_set ?_ GE614.out | refine below_set ?_ GE635.out) | exact HB.out)))); replace an := aM (Kd.R_mono (Kd.R_told (Kd.R_oldK (IsS108.apart (show IsS108 w _ g618 ag ai ah from by repeat (first | (with_reducible first | exact aa.out | apply IsS108.alloc | apply IsS108.drewN | apply IsS108.drew | apply IsS108.set_1 | apply IsS108.set_2 | refine IsS108.far ?_ NB618_614.out _ | refine IsS108.far ?_ NB618_635.out _) | exact aa.out)) (by have X_ := an.out; exact TR) (by decide)) hk) (Kd.R_base ho0)) (fun _ h_ => h_.1)); replace ab := aM (Kd.R_mono (Kd.R_keep (IsS108.apart (show IsS108 w _ g618 ag ai ah from by repeat (first | (with_reducible first | exact aa.out | apply IsS108.alloc | apply IsS108.drewN | apply IsS108.drew | apply IsS108.set_1 | apply IsS108.set_2 | refine IsS108.far ?_ NB618_614.out _ | refine IsS108.far ?_ NB618_635.out _) | exact aa.out)) (by have X_ := ab.out; exact TR) (by decide)) hk (fun _ h => h.2)) (fun _ h => h.1)); replace af := aM (KeepBut.blk hk (g' := ac) (o := .cells #[.int .i64 0, .int .i64 0] 48 (0, 0)) TK NB614_618.out (by simp)); replace ad := aM (KeepBut.blk hk (g' := gb635) (o := .cells #[.int .i64 am, .int .i64 ak, .int .i64 al, .slice Ao16 ae.length co16] 28 (0, 0)) TK NB635_618.out (by simp)); replace HB := aM (hb); replace aa := aM (hi); (try clear hb); (try clear hb2); (try clear hk); (try clear hi); (try clear ho0); obtain ⟨Ao46, co46, eo46⟩ := Kd.R_slice HO653.out; subst eo46) | ((with_reducible refine gate_callee (f := 77) rfl ?_); refine gL (some 52) Try.func77 #[.slice Ao46 aE.length co46] ?_; (with_reducible refine (spec_SumOf.calls kj5 _ _ aE aB aC _ ?side1 ?side2 A44.out).mono ?_); (case side1 => have X_ := (Kd.R_reads' HO653.out).2.2; exact TC); (case side2 => exact (Kd.R_reads' HO653.out).2.1); rintro e w47 ⟨rfl, hb⟩; refine ⟨_, rfl, ?_⟩; replace an := aM (Kd.R_below (by have X_ := an.out; exact TR) hb); replace ab := aM (Kd.R_below (by have X_ := ab.out; exact TR) hb); replace HO653 := aM (Kd.R_below (by have X_ := HO653.out; exact TR) hb); replace af := aM (blk_below (g := ac) (o := .cells #[.int .i64 0, .int .i64 0] 48 (0, 0)) TK hb); replace ad := aM (blk_below (g := gb635) (o := .cells #[.int .i64 am, .int .i64 ak, .int .i64 al, .slice Ao16 ae.length co16] 28 (0, 0)) TK hb); replace HB := aM (below_step (by repeat (first | (with_reducible first | exact HB.out | apply below_alloc | apply pw_below_drewN | apply below_drew1 | refine below_set ?_ (IsS108.ge aa.out) | refine below_set ?_ GE614.out | refine below_set ?_ GE635.out) | exact HB.out)) hb); replace aa := aM (IsS108.below (by repeat (first | (with_reducible first | exact aa.out | apply IsS108.alloc | apply IsS108.drewN | apply IsS108.drew | apply IsS108.set_1 | apply IsS108.set_2 | refine IsS108.far ?_ NB618_614.out _ | refine IsS108.far ?_ NB618_635.out _) | exact aa.out)) hb); (try clear hb); (try clear hb2); (try clear hk); (try clear hi); have hnb48 := NB614_635.out; have hnc48 := NB635_614.out; have hnb49 := NB614_618.out; have hnc49 := NB618_614.out; obtain ⟨hcz50_0, hcz50_1⟩ := cz2 af.out; obtain ⟨hfz50_0, hfz50_1⟩ := fz2 af.out))
    refine bodyPost_ret (results_list (rs := [.tmp 2, .cell 3 48, .tmp 4]) rfl (by simp) (.tmp (.cell ac 48 #[.int .i64 aB, .int .i64 aC] (0, 0) _ rfl (by (with_reducible repeat (first | refine blk_drewN ?_ _ | refine blk_drew ?_ | refine blk_alloc ?_ _)); refine blk_put (cs := #[.int .i64 aB, .int .i64 0]) ?_ 1 _ rfl; (with_reducible repeat (first | refine blk_drewN ?_ _ | refine blk_drew ?_ | refine blk_alloc ?_ _)); refine blk_put (cs := #[.int .i64 0, .int .i64 0]) ?_ 0 _ rfl; (with_reducible repeat (first | refine blk_drewN ?_ _ | refine blk_drew ?_ | refine blk_alloc ?_ _)); exact af.out) Try.underlying48 rfl (by kernel_rfl) (.tmp .nil)))) rfl ?_
    exact ⟨_, by first | rfl | (simp [errW_none, errW_some] <;> rfl) | (simp [*, errW_none, errW_some] <;> rfl), by (with_reducible repeat (first | apply Kd.R_alloc | apply Kd.R_drewN | apply Kd.R_drew)); exact Kd.R_mono (Kd.R_far (p := ⟨ac, 1, none⟩) (Kd.R_far (p := ⟨ac, 0, none⟩) (Kd.R_types an.out af.out (by decide)) (fun _ hk => hk.2) (.int .i64 aB)) (fun _ hk => hk.2) (.int .i64 aC)) (fun _ hk => trivial), by repeat (first | (with_reducible first | exact HB.out | apply below_alloc | apply pw_below_drewN | apply below_drew1 | refine below_set ?_ (IsS108.ge aa.out) | refine below_set ?_ GE614.out | refine below_set ?_ GE635.out) | exact HB.out)⟩

end Go.Proofs.Ytfkndpjbkndhcaa.Q
