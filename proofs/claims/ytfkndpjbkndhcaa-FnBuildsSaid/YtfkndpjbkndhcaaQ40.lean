/- Functions of the program as plain Lean functions, and that a call of each comes to what its function tells. Written by a program of this seat. -/
import Derived.Test.YtfkndpjbkndhcaaQ0
import Derived.Test.YtfkndpjbkndhcaaQ2
import Derived.Test.YtfkndpjbkndhcaaQ5
import Derived.Test.YtfkndpjbkndhcaaQ6
import Derived.Test.YtfkndpjbkndhcaaQ12
import Derived.Test.YtfkndpjbkndhcaaQ13
import Derived.Test.YtfkndpjbkndhcaaQ14
import Derived.Test.YtfkndpjbkndhcaaQ18
import Derived.Test.YtfkndpjbkndhcaaQ19
import Derived.Test.YtfkndpjbkndhcaaQ21
import Derived.Test.YtfkndpjbkndhcaaQ38
import Derived.Test.YtfkndpjbkndhcaaQ39
namespace Go.Proofs.Ytfkndpjbkndhcaa.Q
open Go.RowKit Go.Proofs.YtfkndpjbkndhcaaW.PrintWords Go.Proofs.YtfkndpjbkndhcaaW.PrintLast Go.Proofs.YtfkndpjbkndhcaaW.PrintMore
attribute [local go_sem] max2_int min2_int max_two min_two max_three min_three max_four min_four   -- for this text's walks alone
set_option linter.unusedVariables false
set_option linter.unusedSimpArgs false

/-! ### laws_FnBuilds: function 6 -/
mutual
def laws_FnBuilds.j0 : Nat → List Int → Int → List Int → Bool → Int → Int → Int → List (S48) → Int → List Int → Option (Bool)
  | 0, _, _, _, _, _, _, _, _, _, _ => none
  | k + 1, x4, x5, x8, x56, x841000, x841001, x841002, x841003, x846000, x846001 => if x56 = true then (none) else (laws_FnBuilds.l0 k x4 x5 x8 0 x841000 x841001 x841002 x841003 x846000 x846001)
def laws_FnBuilds.l0 : Nat → List Int → Int → List Int → Int → Int → Int → Int → List (S48) → Int → List Int → Option (Bool)
  | 0, _, _, _, _, _, _, _, _, _, _ => none
  | k + 1, x4, x5, x8, x9, x841000, x841001, x841002, x841003, x846000, x846001 => if x9 < (x8.length : Int) then (if 0 ≤ x9 then ((impl_BlockAt.f x4 x5 (rd x8 x9)).bind fun bt862 => ((impl_PutPiece.f k x841000 x841001 x841002 x841003 x846000 x846001 (rd x8 x9) bt862.1).bind fun bt867 => ((impl_PutPiece.f k x841000 x841001 x841002 x841003 bt867.1 bt867.2.1 (rd x8 x9) bt862.1).bind fun bt874 => ((impl_PieceAt.f k x841000 x841001 x841002 x841003 bt867.1 bt867.2.1 (rd x8 x9)).bind fun bt881 => (if bt867.2.2 = true then (if bt874.2.2 = true then (none) else (if bt881.2 = true then ((laws_same.f k bt881.1 bt862.1).bind fun t885 => (if t885 = true then ((impl_Whole.f k x841000 x841001 x841002 x841003 x846000 x846001).bind fun t886 => (if t886 = true then (none) else (laws_FnBuilds.l0 k x4 x5 x8 (wrap64 (x9 + 1)) x841000 x841001 x841002 x841003 bt867.1 bt867.2.1))) else (none))) else (none))) else (none)))))) else (none)) else ((impl_Whole.f k x841000 x841001 x841002 x841003 x846000 x846001).bind fun t858 => (if t858 = true then ((laws_same.f k x846001 x4).bind fun t859 => (if t859 = true then ((impl_Missing.f x841000 x841001 x841002 x841003 x846000 x846001).bind fun t860 => (some (t860 == 0))) else (none))) else (none)))
end
def laws_FnBuilds.f (k : Nat) (l0 : List Int) : Option (Bool) := (laws_big.f l0).bind fun t826 => (if t826 = true then (some true) else ((spec_DrawOld.f k l0).bind fun bt827 => ((impl_ManOf.f k 1 bt827.2.1 bt827.2.2).bind fun bt834 => ((impl_BuildFrom.f k bt834.1 bt834.2.1 bt834.2.2.1 bt834.2.2.2 bt827.1).bind fun bt841 => ((impl_Missing.f bt834.1 bt834.2.1 bt834.2.2.1 bt834.2.2.2 bt841.1 bt841.2).bind fun t846 => ((impl_PartsIn.f k t846).bind fun t847 => ((impl_BuildOk.f k bt834.1 bt834.2.1 bt834.2.2.1 bt834.2.2.2 bt841.1 bt841.2).bind fun t850 => (if t850 = true then ((impl_Missing.f bt834.1 bt834.2.1 bt834.2.2.1 bt834.2.2.2 bt841.1 bt841.2).bind fun t851 => ((impl_Lacking.f k bt827.1 bt834.1 bt834.2.1 bt834.2.2.1 bt834.2.2.2).bind fun t852 => (if t851 = t852 then ((spec_BuildFrom.f k bt834.1 bt834.2.1 bt834.2.2.1 bt834.2.2.2 bt827.1).bind fun bt853 => ((laws_sameBuild.f k bt841.1 bt841.2 bt853.1 bt853.2).bind fun t857 => (laws_FnBuilds.j0 k bt827.2.1 bt827.2.2 t847 (!t857) bt834.1 bt834.2.1 bt834.2.2.1 bt834.2.2.2 bt841.1 bt841.2))) else (laws_FnBuilds.j0 k bt827.2.1 bt827.2.2 t847 true bt834.1 bt834.2.1 bt834.2.2.1 bt834.2.2.2 bt841.1 bt841.2)))) else (laws_FnBuilds.j0 k bt827.2.1 bt827.2.2 t847 true bt834.1 bt834.2.1 bt834.2.2.1 bt834.2.2.2 bt841.1 bt841.2)))))))))
theorem laws_FnBuilds.mono_l : ∀ k, (∀ y0 y1 y2 y3 y4 y5 y6 y7 y8 y9, LeO (laws_FnBuilds.j0 k y0 y1 y2 y3 y4 y5 y6 y7 y8 y9) (laws_FnBuilds.j0 (k + 1) y0 y1 y2 y3 y4 y5 y6 y7 y8 y9)) ∧ (∀ y0 y1 y2 y3 y4 y5 y6 y7 y8 y9, LeO (laws_FnBuilds.l0 k y0 y1 y2 y3 y4 y5 y6 y7 y8 y9) (laws_FnBuilds.l0 (k + 1) y0 y1 y2 y3 y4 y5 y6 y7 y8 y9))
  | 0 => ⟨fun _ _ _ _ _ _ _ _ _ _ r h => by simp [laws_FnBuilds.j0] at h, fun _ _ _ _ _ _ _ _ _ _ r h => by simp [laws_FnBuilds.l0] at h⟩
  | k + 1 => by
    have m0_ := @impl_BuildFrom.mono
    have m1_ := @impl_BuildOk.mono
    have m2_ := @impl_Lacking.mono
    have m3_ := @impl_ManOf.mono
    have m4_ := @impl_PartsIn.mono
    have m5_ := @impl_PieceAt.mono
    have m6_ := @impl_PutPiece.mono
    have m7_ := @impl_Whole.mono
    have m8_ := @laws_same.mono
    have m9_ := @laws_sameBuild.mono
    have m10_ := @spec_BuildFrom.mono
    have m11_ := @spec_DrawOld.mono
    obtain ⟨ih0, ih1⟩ := laws_FnBuilds.mono_l k
    refine ⟨?_, ?_⟩
    · intro y0 y1 y2 y3 y4 y5 y6 y7 y8 y9
      unfold laws_FnBuilds.j0
      exact LM
    · intro y0 y1 y2 y3 y4 y5 y6 y7 y8 y9
      unfold laws_FnBuilds.l0
      exact LM
theorem laws_FnBuilds.mono : ∀ a0 k, LeO (laws_FnBuilds.f k a0) (laws_FnBuilds.f (k + 1) a0) := by
  intro a0 k
  have m0_ := @impl_BuildFrom.mono
  have m1_ := @impl_BuildOk.mono
  have m2_ := @impl_Lacking.mono
  have m3_ := @impl_ManOf.mono
  have m4_ := @impl_PartsIn.mono
  have m5_ := @impl_PieceAt.mono
  have m6_ := @impl_PutPiece.mono
  have m7_ := @impl_Whole.mono
  have m8_ := @laws_same.mono
  have m9_ := @laws_sameBuild.mono
  have m10_ := @spec_BuildFrom.mono
  have m11_ := @spec_DrawOld.mono
  obtain ⟨ih0, ih1⟩ := laws_FnBuilds.mono_l k
  unfold laws_FnBuilds.f
  exact LM
def laws_FnBuilds.T7 : Bool × List (List Nat × List Nat) := (true, [([], []), ([], []), ([0, 1], [0, 1]), ([2], [2]), ([3, 2], [3]), ([4], [4]), ([4], [4]), ([5, 6, 4, 4], [4, 5, 6]), ([4], [4]), ([4], [4]), ([8, 9, 7, 4], [4, 8, 9]), ([7, 10, 4], [4, 7, 10]), ([4, 11], [4, 11]), ([12, 10], [12]), ([13], [13]), ([13], [13]), ([13], [13]), ([15, 16, 13, 13], [13, 15, 16]), ([14, 17, 17, 13], [13, 14, 17]), ([18, 13], [13, 18]), ([13, 19], [13, 19])])
def laws_FnBuilds.B7 : List Nat := [0, 0, 3, 7, 15, 31, 31, 127, 31, 31, 1023, 2047, 4095, 8191, 16383, 16383, 16383, 114687, 262143, 524287, 1048575]
theorem laws_FnBuilds.tab7 : rtab .any (opsOf Try.f6 7) = laws_FnBuilds.T7 := by kernel_rfl
theorem laws_FnBuilds.bits7 : waitsOk laws_FnBuilds.T7.2 laws_FnBuilds.B7 = true := by kernel_rfl
def laws_FnBuilds.T13 : Bool × List (List Nat × List Nat) := (true, [([], []), ([], []), ([], []), ([], []), ([2, 3], [2, 3]), ([4], [4]), ([], []), ([0, 1, 5, 6], [0, 1, 5, 6]), ([7], [7]), ([8], [8]), ([8], [8]), ([], []), ([11, 9, 7, 0, 1, 2, 3, 4, 5, 6, 7, 8, 9, 11], [9, 11]), ([10, 12, 0, 1, 2, 3, 4, 5, 6, 7, 8, 9, 10, 11, 12], [10])])
def laws_FnBuilds.B13 : List Nat := [0, 0, 0, 0, 12, 28, 0, 127, 255, 511, 511, 0, 3071, 8191]
theorem laws_FnBuilds.tab13 : rtab .any (opsOf Try.f6 13) = laws_FnBuilds.T13 := by kernel_rfl
theorem laws_FnBuilds.bits13 : waitsOk laws_FnBuilds.T13.2 laws_FnBuilds.B13 = true := by kernel_rfl
def laws_FnBuilds.T14 : Bool × List (List Nat × List Nat) := (true, [([], []), ([], []), ([], []), ([], []), ([2, 3], [2, 3]), ([4], [4]), ([], []), ([0, 1, 5, 6], [0, 1, 5, 6]), ([7], [7]), ([8], [8]), ([8], [8]), ([], []), ([11, 9, 7, 0, 1, 2, 3, 4, 5, 6, 7, 8, 9, 11], [9, 11]), ([10, 12, 0, 1, 2, 3, 4, 5, 6, 7, 8, 9, 10, 11, 12], [10])])
def laws_FnBuilds.B14 : List Nat := [0, 0, 0, 0, 12, 28, 0, 127, 255, 511, 511, 0, 3071, 8191]
theorem laws_FnBuilds.tab14 : rtab .any (opsOf Try.f6 14) = laws_FnBuilds.T14 := by kernel_rfl
theorem laws_FnBuilds.bits14 : waitsOk laws_FnBuilds.T14.2 laws_FnBuilds.B14 = true := by kernel_rfl
def laws_FnBuilds.T15 : Bool × List (List Nat × List Nat) := (true, [([], []), ([], []), ([], []), ([], []), ([2, 3], [2, 3]), ([4], [4]), ([0, 1, 5], [0, 1, 5]), ([6], [6]), ([7], [7]), ([7], [7]), ([8, 6, 0, 1, 2, 3, 4, 5, 6, 7, 8], [8]), ([9, 10, 0, 1, 2, 3, 4, 5, 6, 7, 8, 9, 10], [9])])
def laws_FnBuilds.B15 : List Nat := [0, 0, 0, 0, 12, 28, 63, 127, 255, 255, 511, 2047]
theorem laws_FnBuilds.tab15 : rtab .any (opsOf Try.f6 15) = laws_FnBuilds.T15 := by kernel_rfl
theorem laws_FnBuilds.bits15 : waitsOk laws_FnBuilds.T15.2 laws_FnBuilds.B15 = true := by kernel_rfl
set_option maxHeartbeats 40000000 in
set_option maxRecDepth 100000 in
theorem laws_FnBuilds.calls (k : Nat) (A0 : Option Addr) (c0 : Nat) (l0 : List Int) (r : Bool) (w : World) (hr0 : Kd.C (Kd.int .u8) w A0 l0.length l0) (hc0 : l0.length ≤ c0) (h : laws_FnBuilds.f k l0 = some r) :
  Calls Try.prog 6 #[.slice A0 l0.length c0] w fun e w' => e = .returned (.bool r) ∧ Below w.heap.size w w' := by
 have hu28 := Try.underlying28
 have hu31 := Try.underlying31
 have HR0 := aM hr0
 have HC0 := aM hc0
 clear hr0 hc0
 have HB := aM (Below.refl w.heap.size w)
 have H := h
 clear h
 unfold laws_FnBuilds.f at H
 replace H := bE H
 obtain ⟨t826, A2, H⟩ := H
 by_cases c3 : t826 = true
 ·subst c3
  replace H := ifT H
  obtain rfl := Option.some.inj H
  go_enter Try.func6, Try.ntmps6
  go_wp2_with (first | ((with_reducible refine gate_callee (f := 8) rfl ?_); refine gL (some 19) Try.func8 #[.slice A0 l0.length c0] ?_; (with_reducible refine (laws_big.calls _ _ l0 true _ ?side1 ?side2 A2.out).mono ?_); (case side1 => have X_ := HR0.out; exact TC); (case side2 => exact HC0.out); rintro e w' ⟨rfl, ⟨nd, rfl⟩⟩; refine ⟨_, rfl, ?_⟩))
  go_ret
  exact ⟨by first | rfl | (simp [errW_none, errW_some] <;> rfl) | (simp [*, errW_none, errW_some] <;> rfl), TB⟩
 ·replace c3 := Bool.eq_false_iff.mpr c3
  subst c3
  replace H := ifF H
  replace H := bE H
  obtain ⟨⟨a6, aA, bh⟩, A4, H⟩ := H
  dsimp only at H
  replace H := bE H
  obtain ⟨⟨aj, ak, al, ah⟩, A5, H⟩ := H
  dsimp only at H
  replace H := bE H
  obtain ⟨⟨aO, aK⟩, A6, H⟩ := H
  dsimp only at H
  replace H := bE H
  obtain ⟨bS, A7, H⟩ := H
  replace H := bE H
  obtain ⟨aF, A8, H⟩ := H
  have HC9 := aM H
  clear H
  go_enter Try.func6, Try.ntmps6
  go_upto_region 7 with (first | ((with_reducible refine gate_callee (f := 8) rfl ?_); refine gL (some 19) Try.func8 #[.slice A0 l0.length c0] ?_; (with_reducible refine (laws_big.calls _ _ l0 false _ ?side1 ?side2 A2.out).mono ?_); (case side1 => have X_ := HR0.out; exact TC); (case side2 => exact HC0.out); rintro e w' ⟨rfl, ⟨nd, rfl⟩⟩; refine ⟨_, rfl, ?_⟩) | ((with_reducible refine gate_callee (f := 18) rfl ?_); refine gL (some 22) Try.func18 #[.slice A0 l0.length c0] ?_; (with_reducible refine (spec_DrawOld.calls k _ _ l0 a6 aA bh _ ?side1 ?side2 A4.out).mono ?_); (case side1 => have X_ := HR0.out; exact TC); (case side2 => exact HC0.out); rintro e w10 ⟨v830, v832, rfl, ho0, ho1, hb⟩; refine ⟨_, rfl, ?_⟩; have au := aM (Kd.R_lower ho0 (below_size TB)); have aw := aM (Kd.R_lower ho1 (below_size TB)); replace HB := aM (below_step TB hb); clear ho0 ho1 hb; obtain ⟨Ao11, co11, eo11⟩ := Kd.R_slice aw.out; subst eo11) | ((with_reducible refine gate_callee (f := 10) rfl ?_); refine gL (some 28) Try.func10 #[.int .i64 1, .slice Ao11 aA.length co11, .int .i64 bh] ?_; (with_reducible refine (impl_ManOf.calls k 1 _ _ aA bh aj ak al ah _ ?side1 ?side2 A5.out).mono ?_); (case side1 => have X_ := (Kd.R_reads' aw.out).2.2; exact TC); (case side2 => exact (Kd.R_reads' aw.out).2.1); rintro e w12 ⟨v838, rfl, ho0, hb⟩; refine ⟨_, rfl, ?_⟩; have an := aM (Kd.R_lower ho0 (below_size TB)); replace au := aM (Kd.R_below (by have X_ := au.out; exact TR) hb); replace aw := aM (Kd.R_below (by have X_ := aw.out; exact TR) hb); replace HB := aM (below_step TB hb); clear ho0 hb) | ((with_reducible refine gate_dst (N := 6) rfl ?_); refine gBx 6 #[.int .i64 0, .int .i64 0, .int .i64 0, .slice none 0 0] 28 ?_; intro gb840 hg w13 hbox hb; have aa := aM (hbox); have GW840 := aM ((by rw [hg]; exact (below_size TB) : w.heap.size ≤ gb840)); have GE840 := aM ((by rw [hg]; exact (below_size TB) : w.heap.size ≤ gb840)); replace au := aM (Kd.R_below (by have X_ := au.out; exact TR) hb); replace aw := aM (Kd.R_below (by have X_ := aw.out; exact TR) hb); replace an := aM (Kd.R_below (by have X_ := an.out; exact TR) hb); replace HB := aM (below_step TB hb); clear hb hbox hg; obtain ⟨hcz14_0, hcz14_1, hcz14_2, hcz14_3⟩ := cz4 aa.out; obtain ⟨hfz14_0, hfz14_1, hfz14_2, hfz14_3⟩ := fz4 aa.out; obtain ⟨Ao15, co15, eo15⟩ := Kd.R_slice an.out; subst eo15; obtain ⟨Ao16, co16, eo16⟩ := Kd.R_slice au.out; subst eo16) | ((with_reducible refine gate_callee (f := 22) rfl ?_); refine gL (some 31) Try.func22 #[.agg #[.int .i64 aj, .int .i64 ak, .int .i64 al, .slice Ao15 ah.length co15], .slice Ao16 a6.length co16] ?_; (with_reducible refine (impl_BuildFrom.calls k aj ak al _ _ ah _ _ a6 aO aK _ ?side1 ?side2 ?side3 ?side4 A6.out).mono ?_); (case side1 => refine (Kd.R_reads' (e := 48) (base := w.heap.size) (ok := fun k_ => True) (n := ah.length) (c := co15) ?_).2.2; exact (by (with_reducible repeat (first | apply Kd.R_alloc | apply Kd.R_drewN | apply Kd.R_drew)); exact (R_off (Kd.R_types an.out aa.out (by decide)) TO))); (case side2 => exact (Kd.R_reads' an.out).2.1); (case side3 => refine (Kd.R_reads' (e := 5) (base := w.heap.size) (ok := fun k_ => some k_ ≠ (.slice Ao11 aA.length co11 : Value).ownBlock) (n := a6.length) (c := co16) ?_).2.2; exact (by (with_reducible repeat (first | apply Kd.R_alloc | apply Kd.R_drewN | apply Kd.R_drew)); exact (R_off (Kd.R_types au.out aa.out (by decide)) TO))); (case side4 => exact (Kd.R_reads' au.out).2.1); rintro e w17 ⟨v843, rfl, ho0, hb⟩; refine ⟨_, rfl, ?_⟩; have ar := aM (Kd.R_lower (Kd.R_new' (Kd.R_new' ho0 (Kd.R_lt (by (with_reducible repeat (first | apply Kd.R_alloc | apply Kd.R_drewN | apply Kd.R_drew)); exact (R_off (Kd.R_types au.out aa.out (by decide)) TO)))) (Kd.R_lt (by (with_reducible repeat (first | apply Kd.R_alloc | apply Kd.R_drewN | apply Kd.R_drew)); exact (R_off (Kd.R_types aw.out aa.out (by decide)) TO)))) (below_size TB)); replace au := aM (Kd.R_elder' (by (with_reducible repeat (first | apply Kd.R_alloc | apply Kd.R_drewN | apply Kd.R_drew)); exact (R_off (Kd.R_types au.out aa.out (by decide)) TO)) (Kd.R_base ho0) hb); replace aw := aM (Kd.R_elder' (by (with_reducible repeat (first | apply Kd.R_alloc | apply Kd.R_drewN | apply Kd.R_drew)); exact (R_off (Kd.R_types aw.out aa.out (by decide)) TO)) (Kd.R_base ho0) hb); replace an := aM (Kd.R_below (by (with_reducible repeat (first | apply Kd.R_alloc | apply Kd.R_drewN | apply Kd.R_drew)); exact (R_off (Kd.R_types an.out aa.out (by decide)) TO)) hb); replace aa := aM (blk_below (g := gb840) (o := .cells #[.int .i64 aj, .int .i64 ak, .int .i64 al, .slice Ao15 ah.length co15] 28 (0, 0)) (by (with_reducible repeat (first | refine blk_drewN ?_ _ | refine blk_drew ?_ | refine blk_alloc ?_ _)); refine blk_put (cs := #[.int .i64 aj, .int .i64 ak, .int .i64 al, .slice none 0 0]) ?_ 3 _ rfl; (with_reducible repeat (first | refine blk_drewN ?_ _ | refine blk_drew ?_ | refine blk_alloc ?_ _)); refine blk_put (cs := #[.int .i64 aj, .int .i64 ak, .int .i64 0, .slice none 0 0]) ?_ 2 _ rfl; (with_reducible repeat (first | refine blk_drewN ?_ _ | refine blk_drew ?_ | refine blk_alloc ?_ _)); refine blk_put (cs := #[.int .i64 aj, .int .i64 0, .int .i64 0, .slice none 0 0]) ?_ 1 _ rfl; (with_reducible repeat (first | refine blk_drewN ?_ _ | refine blk_drew ?_ | refine blk_alloc ?_ _)); refine blk_put (cs := #[.int .i64 0, .int .i64 0, .int .i64 0, .slice none 0 0]) ?_ 0 _ rfl; (with_reducible repeat (first | refine blk_drewN ?_ _ | refine blk_drew ?_ | refine blk_alloc ?_ _)); exact aa.out) hb); replace HB := aM (below_step TB hb); clear ho0 hb) | ((with_reducible refine gate_dst (N := 7) rfl ?_); refine gBx 7 #[.int .i64 0, .slice none 0 0] 31 ?_; intro gb845 hg w18 hbox hb; have ae := aM (hbox); have GW845 := aM ((by rw [hg]; exact (below_size TB) : w.heap.size ≤ gb845)); have GE845 := aM ((by rw [hg]; exact (below_size TB) : w.heap.size ≤ gb845)); have NB840_845 := aM ((by rw [hg]; exact Nat.ne_of_lt (blk_lt (g := gb840) (o := .cells #[.int .i64 aj, .int .i64 ak, .int .i64 al, .slice Ao15 ah.length co15] 28 (0, 0)) TK) : gb840 ≠ gb845)); have NB845_840 := aM ((by rw [hg]; exact Nat.ne_of_gt (blk_lt (g := gb840) (o := .cells #[.int .i64 aj, .int .i64 ak, .int .i64 al, .slice Ao15 ah.length co15] 28 (0, 0)) TK) : gb845 ≠ gb840)); replace au := aM (Kd.R_below (by have X_ := au.out; exact TR) hb); replace aw := aM (Kd.R_below (by have X_ := aw.out; exact TR) hb); replace an := aM (Kd.R_below (by have X_ := an.out; exact TR) hb); replace ar := aM (Kd.R_below (by have X_ := ar.out; exact TR) hb); replace aa := aM (blk_below (g := gb840) (o := .cells #[.int .i64 aj, .int .i64 ak, .int .i64 al, .slice Ao15 ah.length co15] 28 (0, 0)) TK hb); replace HB := aM (below_step TB hb); clear hb hbox hg; have hnb19 := NB845_840.out; have hnc19 := NB840_845.out; obtain ⟨hcz20_0, hcz20_1⟩ := cz2 ae.out; obtain ⟨hfz20_0, hfz20_1⟩ := fz2 ae.out; obtain ⟨Ao21, co21, eo21⟩ := Kd.R_slice ar.out; subst eo21; obtain ⟨hcz22_0, hcz22_1, hcz22_2, hcz22_3⟩ := cz4 aa.out; obtain ⟨hfz22_0, hfz22_1, hfz22_2, hfz22_3⟩ := fz4 aa.out) | ((with_reducible refine gate_callee (f := 41) rfl ?_); refine gL (some 34) Try.func41 #[.agg #[.int .i64 aj, .int .i64 ak, .int .i64 al, .slice Ao15 ah.length co15], .agg #[.int .i64 aO, .slice Ao21 aK.length co21]] ?_; (with_reducible refine (impl_Missing.calls aj ak al _ _ ah aO _ _ aK bS _ ?side1 ?side2 ?side3 ?side4 A7.out).mono ?_); (case side1 => refine (Kd.R_reads' (e := 48) (base := w.heap.size) (ok := fun k_ => True) (n := ah.length) (c := co15) ?_).2.2; exact (by (with_reducible repeat (first | apply Kd.R_alloc | apply Kd.R_drewN | apply Kd.R_drew)); exact (R_off (Kd.R_types an.out ae.out (by decide)) TO))); (case side2 => exact (Kd.R_reads' an.out).2.1); (case side3 => refine (Kd.R_reads' (e := 5) (base := w.heap.size) (ok := fun k_ => ((True ∧ some k_ ≠ (.slice Ao16 a6.length co16 : Value).ownBlock) ∧ some k_ ≠ (.slice Ao11 aA.length co11 : Value).ownBlock)) (n := aK.length) (c := co21) ?_).2.2; exact (by (with_reducible repeat (first | apply Kd.R_alloc | apply Kd.R_drewN | apply Kd.R_drew)); exact (R_off (Kd.R_types ar.out ae.out (by decide)) TO))); (case side4 => exact (Kd.R_reads' ar.out).2.1); rintro e w23 ⟨rfl, hb⟩; refine ⟨_, rfl, ?_⟩; replace au := aM (Kd.R_below (by (with_reducible repeat (first | apply Kd.R_alloc | apply Kd.R_drewN | apply Kd.R_drew)); exact (R_off (Kd.R_types au.out ae.out (by decide)) TO)) hb); replace aw := aM (Kd.R_below (by (with_reducible repeat (first | apply Kd.R_alloc | apply Kd.R_drewN | apply Kd.R_drew)); exact (R_off (Kd.R_types aw.out ae.out (by decide)) TO)) hb); replace an := aM (Kd.R_below (by (with_reducible repeat (first | apply Kd.R_alloc | apply Kd.R_drewN | apply Kd.R_drew)); exact (R_off (Kd.R_types an.out ae.out (by decide)) TO)) hb); replace ar := aM (Kd.R_below (by (with_reducible repeat (first | apply Kd.R_alloc | apply Kd.R_drewN | apply Kd.R_drew)); exact (R_off (Kd.R_types ar.out ae.out (by decide)) TO)) hb); replace aa := aM (blk_below (g := gb840) (o := .cells #[.int .i64 aj, .int .i64 ak, .int .i64 al, .slice Ao15 ah.length co15] 28 (0, 0)) (by (with_reducible repeat (first | refine blk_drewN ?_ _ | refine blk_drew ?_ | refine blk_alloc ?_ _)); refine blk_far ?_ NB840_845.out _; (with_reducible repeat (first | refine blk_drewN ?_ _ | refine blk_drew ?_ | refine blk_alloc ?_ _)); refine blk_far ?_ NB840_845.out _; (with_reducible repeat (first | refine blk_drewN ?_ _ | refine blk_drew ?_ | refine blk_alloc ?_ _)); exact aa.out) hb); replace ae := aM (blk_below (g := gb845) (o := .cells #[.int .i64 aO, .slice Ao21 aK.length co21] 31 (0, 0)) (by (with_reducible repeat (first | refine blk_drewN ?_ _ | refine blk_drew ?_ | refine blk_alloc ?_ _)); refine blk_put (cs := #[.int .i64 aO, .slice none 0 0]) ?_ 1 _ rfl; (with_reducible repeat (first | refine blk_drewN ?_ _ | refine blk_drew ?_ | refine blk_alloc ?_ _)); refine blk_put (cs := #[.int .i64 0, .slice none 0 0]) ?_ 0 _ rfl; (with_reducible repeat (first | refine blk_drewN ?_ _ | refine blk_drew ?_ | refine blk_alloc ?_ _)); exact ae.out) hb); replace HB := aM (below_step TB hb); clear hb) | ((with_reducible refine gate_callee (f := 40) rfl ?_); refine gL (some 35) Try.func40 #[.int .i64 bS] ?_; (with_reducible refine (impl_PartsIn.calls k bS aF _ A8.out).mono ?_); rintro e w24 ⟨v848, rfl, ho0, hb⟩; refine ⟨_, rfl, ?_⟩; have aD := aM (Kd.R_lower ho0 (below_size TB)); replace au := aM (Kd.R_below (by have X_ := au.out; exact TR) hb); replace aw := aM (Kd.R_below (by have X_ := aw.out; exact TR) hb); replace an := aM (Kd.R_below (by have X_ := an.out; exact TR) hb); replace ar := aM (Kd.R_below (by have X_ := ar.out; exact TR) hb); replace aa := aM (blk_below (g := gb840) (o := .cells #[.int .i64 aj, .int .i64 ak, .int .i64 al, .slice Ao15 ah.length co15] 28 (0, 0)) TK hb); replace ae := aM (blk_below (g := gb845) (o := .cells #[.int .i64 aO, .slice Ao21 aK.length co21] 31 (0, 0)) TK hb); replace HB := aM (below_step TB hb); clear ho0 hb))
  (try simp only [Act.put, List.setIfInBounds_toArray, List.set_cons_zero, List.set_cons_succ])
  go_cut [56] (fun v56 wc => ∃ (kq : Nat) (bD : Bool), v56 = .bool bD ∧ Aside0 (laws_FnBuilds.j0 kq aA bh aF bD aj ak al ah aO aK = some r) ∧ Aside0 (kq ≤ k) ∧ Aside0 (Kd.R (Kd.int .u8) 5 wc w.heap.size (fun k_ => some k_ ≠ ((.slice Ao21 aK.length co21) : Value).ownBlock) (.slice Ao11 aA.length co11) aA) ∧ Aside0 (Kd.R (Kd.int .i64) 3 wc w.heap.size (fun _ => True) v848 aF) ∧ Aside0 (Kd.R k48 48 wc w.heap.size (fun _ => True) (.slice Ao15 ah.length co15) ah) ∧ Aside0 (Kd.R (Kd.int .u8) 5 wc w.heap.size (fun k_ => some k_ ≠ ((.slice Ao11 aA.length co11) : Value).ownBlock) (.slice Ao21 aK.length co21) aK) ∧ Aside0 (wc.heap[gb840]? = some (.cells #[.int .i64 aj, .int .i64 ak, .int .i64 al, (.slice Ao15 ah.length co15)] 28 (0, 0))) ∧ Aside0 (wc.heap[gb845]? = some (.cells #[.int .i64 aO, (.slice Ao21 aK.length co21)] 31 (0, 0))) ∧ Aside0 (Below w.heap.size w wc))
  case first =>
   have H := HC9.out
   clear HC9
   replace H := bE H
   obtain ⟨t850, A25, H⟩ := H
   by_cases c26 : t850 = true
   ·subst c26
    replace H := ifT H
    replace H := bE H
    obtain ⟨bi, A27, H⟩ := H
    replace H := bE H
    obtain ⟨bg, A28, H⟩ := H
    by_cases c29 : bi = bg
    ·rw [if_pos c29] at H
     have bb : (bi == bg) = true := beq_iff_eq.mpr c29
     have bG : (bi != bg) = false := bne_eq_false_iff_eq.mpr c29
     clear c29
     (first | rw [bb] | (simp only [i64_w, i32_w]; rw [bb]) | skip)
     replace H := bE H
     obtain ⟨⟨bJ, bN⟩, A30, H⟩ := H
     dsimp only at H
     replace H := bE H
     obtain ⟨t857, A31, H⟩ := H
     have H' := aM H
     clear H
     try go_wp2
     replace au := aM (Kd.R_drew au.out)
     replace aw := aM (Kd.R_drew aw.out)
     replace an := aM (Kd.R_drew an.out)
     replace ar := aM (Kd.R_drew ar.out)
     replace aD := aM (Kd.R_drew aD.out)
     replace aa := aM (blk_drew aa.out)
     replace ae := aM (blk_drew ae.out)
     replace HB := aM (below_drew1 HB.out)
     refine start_ (n := 21) (S := fun w' => w'.cell? ⟨gb840, 0, none⟩ = some (.int .i64 aj) ∧ w'.cell? ⟨gb840, 1, none⟩ = some (.int .i64 ak) ∧ w'.cell? ⟨gb840, 2, none⟩ = some (.int .i64 al) ∧ w'.cell? ⟨gb840, 3, none⟩ = some (.slice Ao15 ah.length co15) ∧ w'.cell? ⟨gb845, 0, none⟩ = some (.int .i64 aO) ∧ w'.cell? ⟨gb845, 1, none⟩ = some (.slice Ao21 aK.length co21)) (ds := []) #[false, false, false, false, false, false, false, false, false, false, false, false, false, false, false, false, false, false, false, false, false] (by kernel_rfl) rfl rfl ⟨(blk_cell aa.out 0).trans rfl, (blk_cell aa.out 1).trans rfl, (blk_cell aa.out 2).trans rfl, (blk_cell aa.out 3).trans rfl, (blk_cell ae.out 0).trans rfl, (blk_cell ae.out 1).trans rfl⟩ (fun hHeld => ?_); refine with_tabW laws_FnBuilds.tab7 laws_FnBuilds.bits7 (fun HT_ HW_ => ?_)
     generalize w24.drew = w32 at au aw an ar aD aa ae HB hHeld ⊢
     refine pTe 0 (some 36) #[true, false, false, false, false, false, false, false, false, false, false, false, false, false, false, false, false, false, false, false, false] ?_
     refine pTe 1 (some 37) #[true, true, false, false, false, false, false, false, false, false, false, false, false, false, false, false, false, false, false, false, false] ?_
     refine pOe 2 (some 38) #[true, true, true, false, false, false, false, false, false, false, false, false, false, false, false, false, false, false, false, false, false] (fun K hK => ?_)
     refine gG Try.func42 #[.agg #[.int .i64 aj, .int .i64 ak, .int .i64 al, .slice Ao15 ah.length co15], .agg #[.int .i64 aO, .slice Ao21 aK.length co21]] ?_
     with_reducible refine (impl_BuildOk.calls k aj ak al _ _ ah aO _ _ aK true _ ?side1 ?side2 ?side3 ?side4 A25.out).mono ?_
     (case side1 => have X_ := (Kd.R_reads' an.out).2.2; exact TC)
     (case side2 => exact (Kd.R_reads' an.out).2.1)
     (case side3 => have X_ := (Kd.R_reads' ar.out).2.2; exact TC)
     (case side4 => exact (Kd.R_reads' ar.out).2.1)
     rintro e w33 ⟨rfl, hb⟩
     refine ⟨_, rfl, ?_⟩
     have n0_ := aM (Kd.R_below (by have X_ := au.out; exact TR) hb)
     have n1_ := aM (Kd.R_below (by have X_ := aw.out; exact TR) hb)
     have n2_ := aM (Kd.R_below (by have X_ := an.out; exact TR) hb)
     have n3_ := aM (Kd.R_below (by have X_ := ar.out; exact TR) hb)
     have n4_ := aM (Kd.R_below (by have X_ := aD.out; exact TR) hb)
     have n5_ := aM (blk_below (g := gb840) (o := .cells #[.int .i64 aj, .int .i64 ak, .int .i64 al, .slice Ao15 ah.length co15] 28 (0, 0)) TK hb)
     have n6_ := aM (blk_below (g := gb845) (o := .cells #[.int .i64 aO, .slice Ao21 aK.length co21] 31 (0, 0)) TK hb)
     have n7_ := aM (below_step TB hb)
     clear au
     clear aw
     clear an
     clear ar
     clear aD
     clear aa
     clear ae
     clear HB
     have au := n0_
     have aw := n1_
     have an := n2_
     have ar := n3_
     have aD := n4_
     have aa := n5_
     have ae := n6_
     have HB := n7_
     clear n0_ n1_ n2_ n3_ n4_ n5_ n6_ n7_
     (try clear hb)
     (try clear hb2)
     (try clear hk)
     (try clear hi)
     refine hK.out _ _ ⟨(blk_cell aa.out 0).trans rfl, (blk_cell aa.out 1).trans rfl, (blk_cell aa.out 2).trans rfl, (blk_cell aa.out 3).trans rfl, (blk_cell ae.out 0).trans rfl, (blk_cell ae.out 1).trans rfl⟩ (fun hHeld => ?_)
     clear hK K
     refine nR ?_
     refine pPe 3 (some 39) #[true, true, true, true, false, false, false, false, false, false, false, false, false, false, false, false, false, false, false, false, false] ?_
     refine pPe 4 (some 40) #[true, true, true, true, true, false, false, false, false, false, false, false, false, false, false, false, false, false, false, false, false] ?_
     refine pPe 8 (some 44) #[true, true, true, true, true, false, false, false, true, false, false, false, false, false, false, false, false, false, false, false, false] ?_
     refine pTe 5 (some 41) #[true, true, true, true, true, true, false, false, true, false, false, false, false, false, false, false, false, false, false, false, false] ?_
     refine pTe 6 (some 42) #[true, true, true, true, true, true, true, false, true, false, false, false, false, false, false, false, false, false, false, false, false] ?_
     refine pTe 9 (some 45) #[true, true, true, true, true, true, true, false, true, true, false, false, false, false, false, false, false, false, false, false, false] ?_
     refine pOe 7 (some 43) #[true, true, true, true, true, true, true, true, true, true, false, false, false, false, false, false, false, false, false, false, false] (fun K hK => ?_)
     refine gG Try.func41 #[.agg #[.int .i64 aj, .int .i64 ak, .int .i64 al, .slice Ao15 ah.length co15], .agg #[.int .i64 aO, .slice Ao21 aK.length co21]] ?_
     with_reducible refine (impl_Missing.calls aj ak al _ _ ah aO _ _ aK bi _ ?side1 ?side2 ?side3 ?side4 A27.out).mono ?_
     (case side1 => have X_ := (Kd.R_reads' an.out).2.2; exact TC)
     (case side2 => exact (Kd.R_reads' an.out).2.1)
     (case side3 => have X_ := (Kd.R_reads' ar.out).2.2; exact TC)
     (case side4 => exact (Kd.R_reads' ar.out).2.1)
     rintro e w34 ⟨rfl, hb⟩
     refine ⟨_, rfl, ?_⟩
     have n0_ := aM (Kd.R_below (by have X_ := au.out; exact TR) hb)
     have n1_ := aM (Kd.R_below (by have X_ := aw.out; exact TR) hb)
     have n2_ := aM (Kd.R_below (by have X_ := an.out; exact TR) hb)
     have n3_ := aM (Kd.R_below (by have X_ := ar.out; exact TR) hb)
     have n4_ := aM (Kd.R_below (by have X_ := aD.out; exact TR) hb)
     have n5_ := aM (blk_below (g := gb840) (o := .cells #[.int .i64 aj, .int .i64 ak, .int .i64 al, .slice Ao15 ah.length co15] 28 (0, 0)) TK hb)
     have n6_ := aM (blk_below (g := gb845) (o := .cells #[.int .i64 aO, .slice Ao21 aK.length co21] 31 (0, 0)) TK hb)
     have n7_ := aM (below_step TB hb)
     clear au
     clear aw
     clear an
     clear ar
     clear aD
     clear aa
     clear ae
     clear HB
     have au := n0_
     have aw := n1_
     have an := n2_
     have ar := n3_
     have aD := n4_
     have aa := n5_
     have ae := n6_
     have HB := n7_
     clear n0_ n1_ n2_ n3_ n4_ n5_ n6_ n7_
     (try clear hb)
     (try clear hb2)
     (try clear hk)
     (try clear hi)
     refine hK.out _ _ ⟨(blk_cell aa.out 0).trans rfl, (blk_cell aa.out 1).trans rfl, (blk_cell aa.out 2).trans rfl, (blk_cell aa.out 3).trans rfl, (blk_cell ae.out 0).trans rfl, (blk_cell ae.out 1).trans rfl⟩ (fun hHeld => ?_)
     clear hK K
     refine nR ?_
     refine pOe 10 (some 46) #[true, true, true, true, true, true, true, true, true, true, true, false, false, false, false, false, false, false, false, false, false] (fun K hK => ?_)
     refine gG Try.func19 #[.slice Ao16 a6.length co16, .agg #[.int .i64 aj, .int .i64 ak, .int .i64 al, .slice Ao15 ah.length co15]] ?_
     with_reducible refine (impl_Lacking.calls k _ _ a6 aj ak al _ _ ah bg _ ?side1 ?side2 ?side3 ?side4 A28.out).mono ?_
     (case side1 => have X_ := (Kd.R_reads' au.out).2.2; exact TC)
     (case side2 => exact (Kd.R_reads' au.out).2.1)
     (case side3 => have X_ := (Kd.R_reads' an.out).2.2; exact TC)
     (case side4 => exact (Kd.R_reads' an.out).2.1)
     rintro e w35 ⟨rfl, hb⟩
     refine ⟨_, rfl, ?_⟩
     have n0_ := aM (Kd.R_below (by have X_ := au.out; exact TR) hb)
     have n1_ := aM (Kd.R_below (by have X_ := aw.out; exact TR) hb)
     have n2_ := aM (Kd.R_below (by have X_ := an.out; exact TR) hb)
     have n3_ := aM (Kd.R_below (by have X_ := ar.out; exact TR) hb)
     have n4_ := aM (Kd.R_below (by have X_ := aD.out; exact TR) hb)
     have n5_ := aM (blk_below (g := gb840) (o := .cells #[.int .i64 aj, .int .i64 ak, .int .i64 al, .slice Ao15 ah.length co15] 28 (0, 0)) TK hb)
     have n6_ := aM (blk_below (g := gb845) (o := .cells #[.int .i64 aO, .slice Ao21 aK.length co21] 31 (0, 0)) TK hb)
     have n7_ := aM (below_step TB hb)
     clear au
     clear aw
     clear an
     clear ar
     clear aD
     clear aa
     clear ae
     clear HB
     have au := n0_
     have aw := n1_
     have an := n2_
     have ar := n3_
     have aD := n4_
     have aa := n5_
     have ae := n6_
     have HB := n7_
     clear n0_ n1_ n2_ n3_ n4_ n5_ n6_ n7_
     (try clear hb)
     (try clear hb2)
     (try clear hk)
     (try clear hi)
     refine hK.out _ _ ⟨(blk_cell aa.out 0).trans rfl, (blk_cell aa.out 1).trans rfl, (blk_cell aa.out 2).trans rfl, (blk_cell aa.out 3).trans rfl, (blk_cell ae.out 0).trans rfl, (blk_cell ae.out 1).trans rfl⟩ (fun hHeld => ?_)
     clear hK K
     refine nR ?_
     refine pPe 11 (some 47) #[true, true, true, true, true, true, true, true, true, true, true, true, false, false, false, false, false, false, false, false, false] ?_
     refine pPe 12 (some 48) #[true, true, true, true, true, true, true, true, true, true, true, true, true, false, false, false, false, false, false, false, false] ?_
     refine pPe 13 (some 49) #[true, true, true, true, true, true, true, true, true, true, true, true, true, true, false, false, false, false, false, false, false] ?_
     refine pPe 16 (some 52) #[true, true, true, true, true, true, true, true, true, true, true, true, true, true, false, false, true, false, false, false, false] ?_
     refine pTe 14 (some 50) #[true, true, true, true, true, true, true, true, true, true, true, true, true, true, true, false, true, false, false, false, false] ?_
     refine pTe 15 (some 51) #[true, true, true, true, true, true, true, true, true, true, true, true, true, true, true, true, true, false, false, false, false] ?_
     refine pOe 17 (some 53) #[true, true, true, true, true, true, true, true, true, true, true, true, true, true, true, true, true, true, false, false, false] (fun K hK => ?_)
     refine gG Try.func43 #[.agg #[.int .i64 aj, .int .i64 ak, .int .i64 al, .slice Ao15 ah.length co15], .slice Ao16 a6.length co16] ?_
     with_reducible refine (spec_BuildFrom.calls k aj ak al _ _ ah _ _ a6 bJ bN _ ?side1 ?side2 ?side3 ?side4 A30.out).mono ?_
     (case side1 => have X_ := (Kd.R_reads' an.out).2.2; exact TC)
     (case side2 => exact (Kd.R_reads' an.out).2.1)
     (case side3 => have X_ := (Kd.R_reads' au.out).2.2; exact TC)
     (case side4 => exact (Kd.R_reads' au.out).2.1)
     rintro e w36 ⟨v855, rfl, ho0, hb⟩
     refine ⟨_, rfl, ?_⟩
     have n0_ := aM (Kd.R_elder' (by have X_ := au.out; exact TR) (Kd.R_base ho0) hb)
     have n1_ := aM (Kd.R_elder' (by have X_ := aw.out; exact TR) (Kd.R_base ho0) hb)
     have n2_ := aM (Kd.R_below (by have X_ := an.out; exact TR) hb)
     have n3_ := aM (Kd.R_elder' (by have X_ := ar.out; exact TR) (Kd.R_base ho0) hb)
     have n4_ := aM (Kd.R_below (by have X_ := aD.out; exact TR) hb)
     have n5_ := aM (Kd.R_lower (Kd.R_new' (Kd.R_new' (Kd.R_new' ho0 (Kd.R_lt (by have X_ := au.out; exact TR))) (Kd.R_lt (by have X_ := aw.out; exact TR))) (Kd.R_lt (by have X_ := ar.out; exact TR))) (below_size TB))
     have n6_ := aM (blk_below (g := gb840) (o := .cells #[.int .i64 aj, .int .i64 ak, .int .i64 al, .slice Ao15 ah.length co15] 28 (0, 0)) TK hb)
     have n7_ := aM (blk_below (g := gb845) (o := .cells #[.int .i64 aO, .slice Ao21 aK.length co21] 31 (0, 0)) TK hb)
     have n8_ := aM (below_step TB hb)
     clear au
     clear aw
     clear an
     clear ar
     clear aD
     clear aa
     clear ae
     clear HB
     have au := n0_
     have aw := n1_
     have an := n2_
     have ar := n3_
     have aD := n4_
     have bf := n5_
     have aa := n6_
     have ae := n7_
     have HB := n8_
     clear n0_ n1_ n2_ n3_ n4_ n5_ n6_ n7_ n8_
     (try clear hb)
     (try clear hb2)
     (try clear hk)
     (try clear hi)
     (try clear ho0)
     obtain ⟨Ao37, co37, eo37⟩ := Kd.R_slice bf.out
     (first | subst eo37 | (injection eo37 with f1_ f2_ f3_; have f4_ := f1_.symm; have f5_ := f3_.symm; clear f1_ f2_ f3_; subst f4_; subst f5_))
     refine hK.out _ _ ⟨(blk_cell aa.out 0).trans rfl, (blk_cell aa.out 1).trans rfl, (blk_cell aa.out 2).trans rfl, (blk_cell aa.out 3).trans rfl, (blk_cell ae.out 0).trans rfl, (blk_cell ae.out 1).trans rfl⟩ (fun hHeld => ?_)
     clear hK K
     refine nR ?_
     refine pOe 18 (some 54) #[true, true, true, true, true, true, true, true, true, true, true, true, true, true, true, true, true, true, true, false, false] (fun K hK => ?_)
     refine gG Try.func15 #[.agg #[.int .i64 aO, .slice Ao21 aK.length co21], .agg #[.int .i64 bJ, .slice Ao37 bN.length co37]] ?_
     with_reducible refine (laws_sameBuild.calls k aO _ _ aK bJ _ _ bN t857 _ ?side1 ?side2 ?side3 ?side4 A31.out).mono ?_
     (case side1 => have X_ := (Kd.R_reads' ar.out).2.2; exact TC)
     (case side2 => exact (Kd.R_reads' ar.out).2.1)
     (case side3 => have X_ := (Kd.R_reads' bf.out).2.2; exact TC)
     (case side4 => exact (Kd.R_reads' bf.out).2.1)
     rintro e w38 ⟨rfl, hb⟩
     refine ⟨_, rfl, ?_⟩
     have n0_ := aM (Kd.R_below (by have X_ := au.out; exact TR) hb)
     have n1_ := aM (Kd.R_below (by have X_ := aw.out; exact TR) hb)
     have n2_ := aM (Kd.R_below (by have X_ := an.out; exact TR) hb)
     have n3_ := aM (Kd.R_below (by have X_ := ar.out; exact TR) hb)
     have n4_ := aM (Kd.R_below (by have X_ := aD.out; exact TR) hb)
     have n5_ := aM (Kd.R_below (by have X_ := bf.out; exact TR) hb)
     have n6_ := aM (blk_below (g := gb840) (o := .cells #[.int .i64 aj, .int .i64 ak, .int .i64 al, .slice Ao15 ah.length co15] 28 (0, 0)) TK hb)
     have n7_ := aM (blk_below (g := gb845) (o := .cells #[.int .i64 aO, .slice Ao21 aK.length co21] 31 (0, 0)) TK hb)
     have n8_ := aM (below_step TB hb)
     clear au
     clear aw
     clear an
     clear ar
     clear aD
     clear bf
     clear aa
     clear ae
     clear HB
     have au := n0_
     have aw := n1_
     have an := n2_
     have ar := n3_
     have aD := n4_
     have bf := n5_
     have aa := n6_
     have ae := n7_
     have HB := n8_
     clear n0_ n1_ n2_ n3_ n4_ n5_ n6_ n7_ n8_
     (try clear hb)
     (try clear hb2)
     (try clear hk)
     (try clear hi)
     refine hK.out _ _ ⟨(blk_cell aa.out 0).trans rfl, (blk_cell aa.out 1).trans rfl, (blk_cell aa.out 2).trans rfl, (blk_cell aa.out 3).trans rfl, (blk_cell ae.out 0).trans rfl, (blk_cell ae.out 1).trans rfl⟩ (fun hHeld => ?_)
     clear hK K
     refine nR ?_
     refine pPe 19 (some 55) #[true, true, true, true, true, true, true, true, true, true, true, true, true, true, true, true, true, true, true, true, false] ?_
     refine pPe 20 (some 56) #[true, true, true, true, true, true, true, true, true, true, true, true, true, true, true, true, true, true, true, true, true] ?_
     refine done_ (done_of HT_.out (by kernel_rfl)) ?_
     try go_wp2
     go_meet
     case rel => exact ⟨_, (!t857), (by first | rfl | (simp; done) | (simp [*]; done)), H', ⟨by first | omega | exact Nat.le_refl _⟩, ⟨by (with_reducible repeat (first | apply Kd.R_alloc | apply Kd.R_drewN | apply Kd.R_drew)); exact Kd.R_mono aw.out (fun _ hk => hk.1.2)⟩, ⟨by have X_ := aD.out; exact TR⟩, ⟨by have X_ := an.out; exact TR⟩, ⟨by (with_reducible repeat (first | apply Kd.R_alloc | apply Kd.R_drewN | apply Kd.R_drew)); exact Kd.R_mono ar.out (fun _ hk => hk.1.2)⟩, ⟨TK⟩, ⟨TK⟩, ⟨TB⟩⟩
    ·rw [if_neg c29] at H
     have bb : (bi == bg) = false := beq_eq_false_iff_ne.mpr c29
     have bG : (bi != bg) = true := bne_iff_ne.mpr c29
     (first | rw [bb] | (simp only [i64_w, i32_w]; rw [bb]) | skip)
     have H' := aM H
     clear H
     try go_wp2
     replace au := aM (Kd.R_drew au.out)
     replace aw := aM (Kd.R_drew aw.out)
     replace an := aM (Kd.R_drew an.out)
     replace ar := aM (Kd.R_drew ar.out)
     replace aD := aM (Kd.R_drew aD.out)
     replace aa := aM (blk_drew aa.out)
     replace ae := aM (blk_drew ae.out)
     replace HB := aM (below_drew1 HB.out)
     refine start_ (n := 21) (S := fun w' => w'.cell? ⟨gb840, 0, none⟩ = some (.int .i64 aj) ∧ w'.cell? ⟨gb840, 1, none⟩ = some (.int .i64 ak) ∧ w'.cell? ⟨gb840, 2, none⟩ = some (.int .i64 al) ∧ w'.cell? ⟨gb840, 3, none⟩ = some (.slice Ao15 ah.length co15) ∧ w'.cell? ⟨gb845, 0, none⟩ = some (.int .i64 aO) ∧ w'.cell? ⟨gb845, 1, none⟩ = some (.slice Ao21 aK.length co21)) (ds := []) #[false, false, false, false, false, false, false, false, false, false, false, false, false, false, false, false, false, false, false, false, false] (by kernel_rfl) rfl rfl ⟨(blk_cell aa.out 0).trans rfl, (blk_cell aa.out 1).trans rfl, (blk_cell aa.out 2).trans rfl, (blk_cell aa.out 3).trans rfl, (blk_cell ae.out 0).trans rfl, (blk_cell ae.out 1).trans rfl⟩ (fun hHeld => ?_); refine with_tabW laws_FnBuilds.tab7 laws_FnBuilds.bits7 (fun HT_ HW_ => ?_)
     generalize w24.drew = w39 at au aw an ar aD aa ae HB hHeld ⊢
     refine pTe 0 (some 36) #[true, false, false, false, false, false, false, false, false, false, false, false, false, false, false, false, false, false, false, false, false] ?_
     refine pTe 1 (some 37) #[true, true, false, false, false, false, false, false, false, false, false, false, false, false, false, false, false, false, false, false, false] ?_
     refine pOe 2 (some 38) #[true, true, true, false, false, false, false, false, false, false, false, false, false, false, false, false, false, false, false, false, false] (fun K hK => ?_)
     refine gG Try.func42 #[.agg #[.int .i64 aj, .int .i64 ak, .int .i64 al, .slice Ao15 ah.length co15], .agg #[.int .i64 aO, .slice Ao21 aK.length co21]] ?_
     with_reducible refine (impl_BuildOk.calls k aj ak al _ _ ah aO _ _ aK true _ ?side1 ?side2 ?side3 ?side4 A25.out).mono ?_
     (case side1 => have X_ := (Kd.R_reads' an.out).2.2; exact TC)
     (case side2 => exact (Kd.R_reads' an.out).2.1)
     (case side3 => have X_ := (Kd.R_reads' ar.out).2.2; exact TC)
     (case side4 => exact (Kd.R_reads' ar.out).2.1)
     rintro e w40 ⟨rfl, hb⟩
     refine ⟨_, rfl, ?_⟩
     have n0_ := aM (Kd.R_below (by have X_ := au.out; exact TR) hb)
     have n1_ := aM (Kd.R_below (by have X_ := aw.out; exact TR) hb)
     have n2_ := aM (Kd.R_below (by have X_ := an.out; exact TR) hb)
     have n3_ := aM (Kd.R_below (by have X_ := ar.out; exact TR) hb)
     have n4_ := aM (Kd.R_below (by have X_ := aD.out; exact TR) hb)
     have n5_ := aM (blk_below (g := gb840) (o := .cells #[.int .i64 aj, .int .i64 ak, .int .i64 al, .slice Ao15 ah.length co15] 28 (0, 0)) TK hb)
     have n6_ := aM (blk_below (g := gb845) (o := .cells #[.int .i64 aO, .slice Ao21 aK.length co21] 31 (0, 0)) TK hb)
     have n7_ := aM (below_step TB hb)
     clear au
     clear aw
     clear an
     clear ar
     clear aD
     clear aa
     clear ae
     clear HB
     have au := n0_
     have aw := n1_
     have an := n2_
     have ar := n3_
     have aD := n4_
     have aa := n5_
     have ae := n6_
     have HB := n7_
     clear n0_ n1_ n2_ n3_ n4_ n5_ n6_ n7_
     (try clear hb)
     (try clear hb2)
     (try clear hk)
     (try clear hi)
     refine hK.out _ _ ⟨(blk_cell aa.out 0).trans rfl, (blk_cell aa.out 1).trans rfl, (blk_cell aa.out 2).trans rfl, (blk_cell aa.out 3).trans rfl, (blk_cell ae.out 0).trans rfl, (blk_cell ae.out 1).trans rfl⟩ (fun hHeld => ?_)
     clear hK K
     refine nR ?_
     refine pPe 3 (some 39) #[true, true, true, true, false, false, false, false, false, false, false, false, false, false, false, false, false, false, false, false, false] ?_
     refine pPe 4 (some 40) #[true, true, true, true, true, false, false, false, false, false, false, false, false, false, false, false, false, false, false, false, false] ?_
     refine pPe 8 (some 44) #[true, true, true, true, true, false, false, false, true, false, false, false, false, false, false, false, false, false, false, false, false] ?_
     refine pTe 5 (some 41) #[true, true, true, true, true, true, false, false, true, false, false, false, false, false, false, false, false, false, false, false, false] ?_
     refine pTe 6 (some 42) #[true, true, true, true, true, true, true, false, true, false, false, false, false, false, false, false, false, false, false, false, false] ?_
     refine pTe 9 (some 45) #[true, true, true, true, true, true, true, false, true, true, false, false, false, false, false, false, false, false, false, false, false] ?_
     refine pOe 7 (some 43) #[true, true, true, true, true, true, true, true, true, true, false, false, false, false, false, false, false, false, false, false, false] (fun K hK => ?_)
     refine gG Try.func41 #[.agg #[.int .i64 aj, .int .i64 ak, .int .i64 al, .slice Ao15 ah.length co15], .agg #[.int .i64 aO, .slice Ao21 aK.length co21]] ?_
     with_reducible refine (impl_Missing.calls aj ak al _ _ ah aO _ _ aK bi _ ?side1 ?side2 ?side3 ?side4 A27.out).mono ?_
     (case side1 => have X_ := (Kd.R_reads' an.out).2.2; exact TC)
     (case side2 => exact (Kd.R_reads' an.out).2.1)
     (case side3 => have X_ := (Kd.R_reads' ar.out).2.2; exact TC)
     (case side4 => exact (Kd.R_reads' ar.out).2.1)
     rintro e w41 ⟨rfl, hb⟩
     refine ⟨_, rfl, ?_⟩
     have n0_ := aM (Kd.R_below (by have X_ := au.out; exact TR) hb)
     have n1_ := aM (Kd.R_below (by have X_ := aw.out; exact TR) hb)
     have n2_ := aM (Kd.R_below (by have X_ := an.out; exact TR) hb)
     have n3_ := aM (Kd.R_below (by have X_ := ar.out; exact TR) hb)
     have n4_ := aM (Kd.R_below (by have X_ := aD.out; exact TR) hb)
     have n5_ := aM (blk_below (g := gb840) (o := .cells #[.int .i64 aj, .int .i64 ak, .int .i64 al, .slice Ao15 ah.length co15] 28 (0, 0)) TK hb)
     have n6_ := aM (blk_below (g := gb845) (o := .cells #[.int .i64 aO, .slice Ao21 aK.length co21] 31 (0, 0)) TK hb)
     have n7_ := aM (below_step TB hb)
     clear au
     clear aw
     clear an
     clear ar
     clear aD
     clear aa
     clear ae
     clear HB
     have au := n0_
     have aw := n1_
     have an := n2_
     have ar := n3_
     have aD := n4_
     have aa := n5_
     have ae := n6_
     have HB := n7_
     clear n0_ n1_ n2_ n3_ n4_ n5_ n6_ n7_
     (try clear hb)
     (try clear hb2)
     (try clear hk)
     (try clear hi)
     refine hK.out _ _ ⟨(blk_cell aa.out 0).trans rfl, (blk_cell aa.out 1).trans rfl, (blk_cell aa.out 2).trans rfl, (blk_cell aa.out 3).trans rfl, (blk_cell ae.out 0).trans rfl, (blk_cell ae.out 1).trans rfl⟩ (fun hHeld => ?_)
     clear hK K
     refine nR ?_
     refine pOe 10 (some 46) #[true, true, true, true, true, true, true, true, true, true, true, false, false, false, false, false, false, false, false, false, false] (fun K hK => ?_)
     refine gG Try.func19 #[.slice Ao16 a6.length co16, .agg #[.int .i64 aj, .int .i64 ak, .int .i64 al, .slice Ao15 ah.length co15]] ?_
     with_reducible refine (impl_Lacking.calls k _ _ a6 aj ak al _ _ ah bg _ ?side1 ?side2 ?side3 ?side4 A28.out).mono ?_
     (case side1 => have X_ := (Kd.R_reads' au.out).2.2; exact TC)
     (case side2 => exact (Kd.R_reads' au.out).2.1)
     (case side3 => have X_ := (Kd.R_reads' an.out).2.2; exact TC)
     (case side4 => exact (Kd.R_reads' an.out).2.1)
     rintro e w42 ⟨rfl, hb⟩
     refine ⟨_, rfl, ?_⟩
     have n0_ := aM (Kd.R_below (by have X_ := au.out; exact TR) hb)
     have n1_ := aM (Kd.R_below (by have X_ := aw.out; exact TR) hb)
     have n2_ := aM (Kd.R_below (by have X_ := an.out; exact TR) hb)
     have n3_ := aM (Kd.R_below (by have X_ := ar.out; exact TR) hb)
     have n4_ := aM (Kd.R_below (by have X_ := aD.out; exact TR) hb)
     have n5_ := aM (blk_below (g := gb840) (o := .cells #[.int .i64 aj, .int .i64 ak, .int .i64 al, .slice Ao15 ah.length co15] 28 (0, 0)) TK hb)
     have n6_ := aM (blk_below (g := gb845) (o := .cells #[.int .i64 aO, .slice Ao21 aK.length co21] 31 (0, 0)) TK hb)
     have n7_ := aM (below_step TB hb)
     clear au
     clear aw
     clear an
     clear ar
     clear aD
     clear aa
     clear ae
     clear HB
     have au := n0_
     have aw := n1_
     have an := n2_
     have ar := n3_
     have aD := n4_
     have aa := n5_
     have ae := n6_
     have HB := n7_
     clear n0_ n1_ n2_ n3_ n4_ n5_ n6_ n7_
     (try clear hb)
     (try clear hb2)
     (try clear hk)
     (try clear hi)
     refine hK.out _ _ ⟨(blk_cell aa.out 0).trans rfl, (blk_cell aa.out 1).trans rfl, (blk_cell aa.out 2).trans rfl, (blk_cell aa.out 3).trans rfl, (blk_cell ae.out 0).trans rfl, (blk_cell ae.out 1).trans rfl⟩ (fun hHeld => ?_)
     clear hK K
     refine nR ?_
     refine pPe 11 (some 47) #[true, true, true, true, true, true, true, true, true, true, true, true, false, false, false, false, false, false, false, false, false] ?_
     refine pPe 12 (some 48) #[true, true, true, true, true, true, true, true, true, true, true, true, true, false, false, false, false, false, false, false, false] ?_
     refine pPe 13 (some 49) #[true, true, true, true, true, true, true, true, true, true, true, true, true, true, false, false, false, false, false, false, false] ?_
     refine pXe 14 (some 50) #[true, true, true, true, true, true, true, true, true, true, true, true, true, true, true, false, false, false, false, false, false] ?_
     refine pXe 15 (some 51) #[true, true, true, true, true, true, true, true, true, true, true, true, true, true, true, true, false, false, false, false, false] ?_
     refine pXe 16 (some 52) #[true, true, true, true, true, true, true, true, true, true, true, true, true, true, true, true, true, false, false, false, false] ?_
     refine pXe 17 (some 53) #[true, true, true, true, true, true, true, true, true, true, true, true, true, true, true, true, true, true, false, false, false] ?_
     refine pXe 18 (some 54) #[true, true, true, true, true, true, true, true, true, true, true, true, true, true, true, true, true, true, true, false, false] ?_
     refine pXe 19 (some 55) #[true, true, true, true, true, true, true, true, true, true, true, true, true, true, true, true, true, true, true, true, false] ?_
     refine pPe 20 (some 56) #[true, true, true, true, true, true, true, true, true, true, true, true, true, true, true, true, true, true, true, true, true] ?_
     refine done_ (done_of HT_.out (by kernel_rfl)) ?_
     try go_wp2
     go_meet
     case rel => exact ⟨_, (true), (by first | rfl | (simp; done) | (simp [*]; done)), H', ⟨by first | omega | exact Nat.le_refl _⟩, ⟨by (with_reducible repeat (first | apply Kd.R_alloc | apply Kd.R_drewN | apply Kd.R_drew)); exact Kd.R_mono aw.out (fun _ hk => hk.2)⟩, ⟨by have X_ := aD.out; exact TR⟩, ⟨by have X_ := an.out; exact TR⟩, ⟨by (with_reducible repeat (first | apply Kd.R_alloc | apply Kd.R_drewN | apply Kd.R_drew)); exact Kd.R_mono ar.out (fun _ hk => hk.2)⟩, ⟨TK⟩, ⟨TK⟩, ⟨TB⟩⟩
   ·replace c26 := Bool.eq_false_iff.mpr c26
    subst c26
    replace H := ifF H
    have H' := aM H
    clear H
    try go_wp2
    replace au := aM (Kd.R_drew au.out)
    replace aw := aM (Kd.R_drew aw.out)
    replace an := aM (Kd.R_drew an.out)
    replace ar := aM (Kd.R_drew ar.out)
    replace aD := aM (Kd.R_drew aD.out)
    replace aa := aM (blk_drew aa.out)
    replace ae := aM (blk_drew ae.out)
    replace HB := aM (below_drew1 HB.out)
    refine start_ (n := 21) (S := fun w' => w'.cell? ⟨gb840, 0, none⟩ = some (.int .i64 aj) ∧ w'.cell? ⟨gb840, 1, none⟩ = some (.int .i64 ak) ∧ w'.cell? ⟨gb840, 2, none⟩ = some (.int .i64 al) ∧ w'.cell? ⟨gb840, 3, none⟩ = some (.slice Ao15 ah.length co15) ∧ w'.cell? ⟨gb845, 0, none⟩ = some (.int .i64 aO) ∧ w'.cell? ⟨gb845, 1, none⟩ = some (.slice Ao21 aK.length co21)) (ds := []) #[false, false, false, false, false, false, false, false, false, false, false, false, false, false, false, false, false, false, false, false, false] (by kernel_rfl) rfl rfl ⟨(blk_cell aa.out 0).trans rfl, (blk_cell aa.out 1).trans rfl, (blk_cell aa.out 2).trans rfl, (blk_cell aa.out 3).trans rfl, (blk_cell ae.out 0).trans rfl, (blk_cell ae.out 1).trans rfl⟩ (fun hHeld => ?_); refine with_tabW laws_FnBuilds.tab7 laws_FnBuilds.bits7 (fun HT_ HW_ => ?_)
    generalize w24.drew = w43 at au aw an ar aD aa ae HB hHeld ⊢
    refine pTe 0 (some 36) #[true, false, false, false, false, false, false, false, false, false, false, false, false, false, false, false, false, false, false, false, false] ?_
    refine pTe 1 (some 37) #[true, true, false, false, false, false, false, false, false, false, false, false, false, false, false, false, false, false, false, false, false] ?_
    refine pOe 2 (some 38) #[true, true, true, false, false, false, false, false, false, false, false, false, false, false, false, false, false, false, false, false, false] (fun K hK => ?_)
    refine gG Try.func42 #[.agg #[.int .i64 aj, .int .i64 ak, .int .i64 al, .slice Ao15 ah.length co15], .agg #[.int .i64 aO, .slice Ao21 aK.length co21]] ?_
    with_reducible refine (impl_BuildOk.calls k aj ak al _ _ ah aO _ _ aK false _ ?side1 ?side2 ?side3 ?side4 A25.out).mono ?_
    (case side1 => have X_ := (Kd.R_reads' an.out).2.2; exact TC)
    (case side2 => exact (Kd.R_reads' an.out).2.1)
    (case side3 => have X_ := (Kd.R_reads' ar.out).2.2; exact TC)
    (case side4 => exact (Kd.R_reads' ar.out).2.1)
    rintro e w44 ⟨rfl, hb⟩
    refine ⟨_, rfl, ?_⟩
    have n0_ := aM (Kd.R_below (by have X_ := au.out; exact TR) hb)
    have n1_ := aM (Kd.R_below (by have X_ := aw.out; exact TR) hb)
    have n2_ := aM (Kd.R_below (by have X_ := an.out; exact TR) hb)
    have n3_ := aM (Kd.R_below (by have X_ := ar.out; exact TR) hb)
    have n4_ := aM (Kd.R_below (by have X_ := aD.out; exact TR) hb)
    have n5_ := aM (blk_below (g := gb840) (o := .cells #[.int .i64 aj, .int .i64 ak, .int .i64 al, .slice Ao15 ah.length co15] 28 (0, 0)) TK hb)
    have n6_ := aM (blk_below (g := gb845) (o := .cells #[.int .i64 aO, .slice Ao21 aK.length co21] 31 (0, 0)) TK hb)
    have n7_ := aM (below_step TB hb)
    clear au
    clear aw
    clear an
    clear ar
    clear aD
    clear aa
    clear ae
    clear HB
    have au := n0_
    have aw := n1_
    have an := n2_
    have ar := n3_
    have aD := n4_
    have aa := n5_
    have ae := n6_
    have HB := n7_
    clear n0_ n1_ n2_ n3_ n4_ n5_ n6_ n7_
    (try clear hb)
    (try clear hb2)
    (try clear hk)
    (try clear hi)
    refine hK.out _ _ ⟨(blk_cell aa.out 0).trans rfl, (blk_cell aa.out 1).trans rfl, (blk_cell aa.out 2).trans rfl, (blk_cell aa.out 3).trans rfl, (blk_cell ae.out 0).trans rfl, (blk_cell ae.out 1).trans rfl⟩ (fun hHeld => ?_)
    clear hK K
    refine nR ?_
    refine pPe 3 (some 39) #[true, true, true, true, false, false, false, false, false, false, false, false, false, false, false, false, false, false, false, false, false] ?_
    refine pPe 4 (some 40) #[true, true, true, true, true, false, false, false, false, false, false, false, false, false, false, false, false, false, false, false, false] ?_
    refine pXe 5 (some 41) #[true, true, true, true, true, true, false, false, false, false, false, false, false, false, false, false, false, false, false, false, false] ?_
    refine pXe 6 (some 42) #[true, true, true, true, true, true, true, false, false, false, false, false, false, false, false, false, false, false, false, false, false] ?_
    refine pXe 7 (some 43) #[true, true, true, true, true, true, true, true, false, false, false, false, false, false, false, false, false, false, false, false, false] ?_
    refine pXe 8 (some 44) #[true, true, true, true, true, true, true, true, true, false, false, false, false, false, false, false, false, false, false, false, false] ?_
    refine pXe 9 (some 45) #[true, true, true, true, true, true, true, true, true, true, false, false, false, false, false, false, false, false, false, false, false] ?_
    refine pXe 10 (some 46) #[true, true, true, true, true, true, true, true, true, true, true, false, false, false, false, false, false, false, false, false, false] ?_
    refine pXe 11 (some 47) #[true, true, true, true, true, true, true, true, true, true, true, true, false, false, false, false, false, false, false, false, false] ?_
    refine pPe 12 (some 48) #[true, true, true, true, true, true, true, true, true, true, true, true, true, false, false, false, false, false, false, false, false] ?_
    refine pPe 13 (some 49) #[true, true, true, true, true, true, true, true, true, true, true, true, true, true, false, false, false, false, false, false, false] ?_
    refine pXe 14 (some 50) #[true, true, true, true, true, true, true, true, true, true, true, true, true, true, true, false, false, false, false, false, false] ?_
    refine pXe 15 (some 51) #[true, true, true, true, true, true, true, true, true, true, true, true, true, true, true, true, false, false, false, false, false] ?_
    refine pXe 16 (some 52) #[true, true, true, true, true, true, true, true, true, true, true, true, true, true, true, true, true, false, false, false, false] ?_
    refine pXe 17 (some 53) #[true, true, true, true, true, true, true, true, true, true, true, true, true, true, true, true, true, true, false, false, false] ?_
    refine pXe 18 (some 54) #[true, true, true, true, true, true, true, true, true, true, true, true, true, true, true, true, true, true, true, false, false] ?_
    refine pXe 19 (some 55) #[true, true, true, true, true, true, true, true, true, true, true, true, true, true, true, true, true, true, true, true, false] ?_
    refine pPe 20 (some 56) #[true, true, true, true, true, true, true, true, true, true, true, true, true, true, true, true, true, true, true, true, true] ?_
    refine done_ (done_of HT_.out (by kernel_rfl)) ?_
    try go_wp2
    go_meet
    case rel => exact ⟨_, (true), (by first | rfl | (simp; done) | (simp [*]; done)), H', ⟨by first | omega | exact Nat.le_refl _⟩, ⟨by (with_reducible repeat (first | apply Kd.R_alloc | apply Kd.R_drewN | apply Kd.R_drew)); exact Kd.R_mono aw.out (fun _ hk => hk.2)⟩, ⟨by have X_ := aD.out; exact TR⟩, ⟨by have X_ := an.out; exact TR⟩, ⟨by (with_reducible repeat (first | apply Kd.R_alloc | apply Kd.R_drewN | apply Kd.R_drew)); exact Kd.R_mono ar.out (fun _ hk => hk.2)⟩, ⟨TK⟩, ⟨TK⟩, ⟨TB⟩⟩
  case rest =>
   clear HC9
   try clear c1
   try clear c2
   try clear p2
   try clear c4
   try clear c15
   try clear c19
   try clear c26
   try clear c29
   try clear bb
   try clear bG
   try clear c41
   try clear c42
   try clear c43
   obtain ⟨kq, bD, rfl, HA, HJ8, av, ao, ad, ac, aa, ae, HB⟩ := hcut
   cases kq with
   | zero => exact absurd HA.out (by simp [laws_FnBuilds.j0])
   | succ kj8 =>
    have H := HA.out
    clear HA
    simp only [laws_FnBuilds.j0] at H
    replace H := ifM H
    obtain ⟨c45, H⟩ := H
    replace c45 := Bool.eq_false_iff.mpr c45
    subst c45
    have H' := aM H
    clear H
    go_wp2
    go_loopg [9] kj8 (fun kq v9 w' => ∃ (aE : Int) (ai : Int) (ab : List Int) (a9 : Value), v9 = .int .i64 aE ∧ Aside0 (laws_FnBuilds.l0 kq aA bh aF aE aj ak al ah ai ab = some r) ∧ Aside0 (kq ≤ kj8) ∧ Aside0 (Kd.R (Kd.int .u8) 5 w' w.heap.size (fun k_ => some k_ ≠ (a9 : Value).ownBlock) (.slice Ao11 aA.length co11) aA) ∧ Aside0 (Kd.R (Kd.int .i64) 3 w' w.heap.size (fun _ => True) v848 aF) ∧ Aside0 (Kd.R k48 48 w' w.heap.size (fun _ => True) (.slice Ao15 ah.length co15) ah) ∧ Aside0 (Kd.R (Kd.int .u8) 5 w' w.heap.size (fun k_ => some k_ ≠ ((.slice Ao11 aA.length co11) : Value).ownBlock) a9 ab) ∧ Aside0 (w'.heap[gb840]? = some (.cells #[.int .i64 aj, .int .i64 ak, .int .i64 al, (.slice Ao15 ah.length co15)] 28 (0, 0))) ∧ Aside0 (w'.heap[gb845]? = some (.cells #[.int .i64 ai, a9] 31 (0, 0))) ∧ Aside0 (Below w.heap.size w w'))
    case atStart => exact ⟨(0), (aO), (aK), (.slice Ao21 aK.length co21), (by first | rfl | (simp; done) | (simp [*]; done)), H', ⟨Nat.le_refl _⟩, ⟨by have X_ := av.out; exact TR⟩, ⟨by have X_ := ao.out; exact TR⟩, ⟨by have X_ := ad.out; exact TR⟩, ⟨by have X_ := ac.out; exact TR⟩, ⟨TK⟩, ⟨TK⟩, ⟨TB⟩⟩
    case round =>
     clear H'
     try clear c1
     try clear c2
     try clear p2
     try clear c4
     try clear c15
     try clear c19
     try clear c26
     try clear c29
     try clear bb
     try clear bG
     try clear c41
     try clear c42
     try clear c43
     try clear c45
     try clear p2
     obtain ⟨aE, ai, ab, a9, rfl, HA, HK2, av, ao, ad, ac, aa, ae, HB⟩ := hrel
     cases gk with
     | zero => exact absurd HA.out (by simp [laws_FnBuilds.l0])
     | succ k2 =>
      have H := HA.out
      clear HA
      simp only [laws_FnBuilds.l0] at H
      by_cases c46 : aE < (aF.length : Int)
      ·rw [if_pos c46] at H
       have c46b0 : decide (aE < (aF.length : Int)) = true := decide_eq_true c46
       clear c46
       replace H := ifN H
       obtain ⟨c47, H⟩ := H
       have c47b0 : decide (0 ≤ aE) = true := decide_eq_true c47
       clear c47
       replace H := bE H
       obtain ⟨⟨aC, t863⟩, A48, H⟩ := H
       dsimp only at H
       replace H := bE H
       obtain ⟨⟨aB, ap, t871⟩, A49, H⟩ := H
       dsimp only at H
       replace H := bE H
       obtain ⟨⟨aS, aH, t878⟩, A50, H⟩ := H
       dsimp only at H
       replace H := bE H
       obtain ⟨⟨ba, t884⟩, A51, H⟩ := H
       dsimp only at H
       replace H := ifN H
       obtain ⟨c52, H⟩ := H
       subst c52
       replace H := ifM H
       obtain ⟨c53, H⟩ := H
       replace c53 := Bool.eq_false_iff.mpr c53
       subst c53
       replace H := ifN H
       obtain ⟨c54, H⟩ := H
       subst c54
       replace H := bE H
       obtain ⟨t885, A55, H⟩ := H
       replace H := ifN H
       obtain ⟨c56, H⟩ := H
       subst c56
       replace H := bE H
       obtain ⟨t886, A57, H⟩ := H
       replace H := ifM H
       obtain ⟨c58, H⟩ := H
       replace c58 := Bool.eq_false_iff.mpr c58
       subst c58
       have H' := aM H
       clear H
       obtain ⟨Ao59, bj, eo59⟩ := Kd.R_slice ao.out
       subst eo59
       have bO : 0 ≤ (aE : Int) := DT
       have bI : aE < (aF.length : Int) := DT
       obtain ⟨aV, e861, hx861_0⟩ := Kd.at_int (Kd.R_reads' ao.out).2.2 aE bO bI
       cases e861
       replace bO := eq_true bO
       replace bI := eq_true bI
       try go_wp2_with (first | ((with_reducible refine gate_callee (f := 13) rfl ?_); refine gL (some 70) Try.func13 #[.slice Ao11 aA.length co11, .int .i64 bh, .int .i64 (rd aF aE)] ?_; (with_reducible refine (impl_BlockAt.calls _ _ aA bh (rd aF aE) aC t863 _ ?side1 ?side2 A48.out).mono ?_); (case side1 => have X_ := (Kd.R_reads' av.out).2.2; exact TC); (case side2 => exact (Kd.R_reads' av.out).2.1); rintro e w60 ⟨v864, rfl, ho0, hb⟩; refine ⟨_, rfl, ?_⟩; have am := aM (Kd.R_lower (Kd.R_new' (Kd.R_new' ho0 (Kd.R_lt (by have X_ := av.out; exact TR))) (Kd.R_lt (by have X_ := ac.out; exact TR))) (below_size TB)); replace av := aM (Kd.R_elder' (by have X_ := av.out; exact TR) (Kd.R_base ho0) hb); replace ao := aM (Kd.R_below (by have X_ := ao.out; exact TR) hb); replace ad := aM (Kd.R_below (by have X_ := ad.out; exact TR) hb); replace ac := aM (Kd.R_elder' (by have X_ := ac.out; exact TR) (Kd.R_base ho0) hb); replace aa := aM (blk_below (g := gb840) (o := .cells #[.int .i64 aj, .int .i64 ak, .int .i64 al, .slice Ao15 ah.length co15] 28 (0, 0)) TK hb); replace ae := aM (blk_below (g := gb845) (o := .cells #[.int .i64 ai, a9] 31 (0, 0)) TK hb); replace HB := aM (below_step TB hb); clear ho0 hb; obtain ⟨Ao61, co61, eo61⟩ := Kd.R_slice ac.out; subst eo61; obtain ⟨Ao62, co62, eo62⟩ := Kd.R_slice am.out; subst eo62))
       replace av := aM (Kd.R_drew av.out)
       replace ao := aM (Kd.R_drew ao.out)
       replace ad := aM (Kd.R_drew ad.out)
       replace ac := aM (Kd.R_drew ac.out)
       replace am := aM (Kd.R_drew am.out)
       replace aa := aM (blk_drew aa.out)
       replace ae := aM (blk_drew ae.out)
       replace HB := aM (below_drew1 HB.out)
       have bL : 0 ≤ (aE : Int) := DT
       have bP : aE < (aF.length : Int) := DT
       obtain ⟨ad866, e866, bC⟩ := Kd.at_int (Kd.R_reads' ao.out).2.2 aE bL bP
       obtain rfl : aV = ad866 := (by injection e866)
       replace bL := eq_true bL
       replace bP := eq_true bP
       refine start_ (n := 14) (S := fun w' => w'.cell? ⟨gb840, 0, none⟩ = some (.int .i64 aj) ∧ w'.cell? ⟨gb840, 1, none⟩ = some (.int .i64 ak) ∧ w'.cell? ⟨gb840, 2, none⟩ = some (.int .i64 al) ∧ w'.cell? ⟨gb840, 3, none⟩ = some (.slice Ao15 ah.length co15) ∧ w'.cell? ⟨gb845, 0, none⟩ = some (.int .i64 ai) ∧ w'.cell? ⟨gb845, 1, none⟩ = some (.slice Ao61 ab.length co61) ∧ w'.cell? (aV.add (aE).toNat) = some (.int .i64 (rd aF aE))) (ds := []) #[false, false, false, false, false, false, false, false, false, false, false, false, false, false] (by kernel_rfl) rfl rfl ⟨(blk_cell aa.out 0).trans rfl, (blk_cell aa.out 1).trans rfl, (blk_cell aa.out 2).trans rfl, (blk_cell aa.out 3).trans rfl, (blk_cell ae.out 0).trans rfl, (blk_cell ae.out 1).trans rfl, bC⟩ (fun hHeld => ?_); refine with_tabW laws_FnBuilds.tab13 laws_FnBuilds.bits13 (fun HT_ HW_ => ?_)
       generalize w60.drew = w63 at av ao ad ac am aa ae HB bC hHeld ⊢
       refine pPe 2 (some 76) #[false, false, true, false, false, false, false, false, false, false, false, false, false, false] ?_
       refine pPe 3 (some 77) #[false, false, true, true, false, false, false, false, false, false, false, false, false, false] ?_
       refine pPe 4 (some 78) #[false, false, true, true, true, false, false, false, false, false, false, false, false, false] ?_
       refine pPe 6 (some 80) #[false, false, true, true, true, false, true, false, false, false, false, false, false, false] ?_
       refine pTe 0 (some 74) #[true, false, true, true, true, false, true, false, false, false, false, false, false, false] ?_
       refine pTe 1 (some 75) #[true, true, true, true, true, false, true, false, false, false, false, false, false, false] ?_
       refine pTe 5 (some 79) #[true, true, true, true, true, true, true, false, false, false, false, false, false, false] ?_
       refine join_ (σ := Value × Nat) 2 #[true, true, true, true, true, true, true, true, true, true, true, true, false, false] (fun s_ => [(81, .tuple #[.agg #[.int .i64 aB, s_.1], .bool true]), (12, .pointer (some ⟨s_.2, 0, none⟩)), (73, .tuple #[.agg #[.int .i64 aB, s_.1], .bool true]), (82, .agg #[.int .i64 aB, s_.1]), (83, .bool true)]) (fun s_ w' => (w'.cell? ⟨gb840, 0, none⟩ = some (.int .i64 aj) ∧ w'.cell? ⟨gb840, 1, none⟩ = some (.int .i64 ak) ∧ w'.cell? ⟨gb840, 2, none⟩ = some (.int .i64 al) ∧ w'.cell? ⟨gb840, 3, none⟩ = some (.slice Ao15 ah.length co15) ∧ w'.cell? ⟨gb845, 0, none⟩ = some (.int .i64 ai) ∧ w'.cell? ⟨gb845, 1, none⟩ = some (.slice Ao61 ab.length co61) ∧ w'.cell? (aV.add (aE).toNat) = some (.int .i64 (rd aF aE))) ∧ (Kd.R (Kd.int .u8) 5 w' w.heap.size (fun k_ => some k_ ≠ (s_.1 : Value).ownBlock ∧ some k_ ≠ (.slice Ao11 aA.length co11 : Value).ownBlock ∧ some k_ ≠ (.slice Ao61 ab.length co61 : Value).ownBlock) (.slice Ao62 aC.length co62) aC) ∧ (Kd.R (Kd.int .u8) 5 w' w.heap.size (fun k_ => some k_ ≠ (.slice Ao62 aC.length co62 : Value).ownBlock ∧ some k_ ≠ (.slice Ao11 aA.length co11 : Value).ownBlock ∧ some k_ ≠ (.slice Ao61 ab.length co61 : Value).ownBlock) s_.1 ap) ∧ (Kd.R (Kd.int .u8) 5 w' w.heap.size (fun k_ => some k_ ≠ (.slice Ao62 aC.length co62 : Value).ownBlock ∧ some k_ ≠ (s_.1 : Value).ownBlock ∧ some k_ ≠ (.slice Ao61 ab.length co61 : Value).ownBlock) (.slice Ao11 aA.length co11) aA) ∧ (Kd.R (Kd.int .i64) 3 w' w.heap.size (fun _ => True) (.slice (some aV) aF.length bj) aF) ∧ (Kd.R k48 48 w' w.heap.size (fun _ => True) (.slice Ao15 ah.length co15) ah) ∧ (Kd.R (Kd.int .u8) 5 w' w.heap.size (fun k_ => some k_ ≠ (.slice Ao62 aC.length co62 : Value).ownBlock ∧ some k_ ≠ (s_.1 : Value).ownBlock ∧ some k_ ≠ (.slice Ao11 aA.length co11 : Value).ownBlock) (.slice Ao61 ab.length co61) ab) ∧ (w'.heap[gb840]? = some (.cells #[.int .i64 aj, .int .i64 ak, .int .i64 al, .slice Ao15 ah.length co15] 28 (0, 0))) ∧ (w'.heap[gb845]? = some (.cells #[.int .i64 ai, .slice Ao61 ab.length co61] 31 (0, 0))) ∧ (w'.heap[s_.2]? = some (.cells #[.int .i64 0, .slice none 0 0] 31 (0, 0))) ∧ (w.heap.size ≤ s_.2) ∧ (w.heap.size ≤ s_.2) ∧ (gb840 ≠ s_.2) ∧ (s_.2 ≠ gb840) ∧ (gb845 ≠ s_.2) ∧ (s_.2 ≠ gb845) ∧ (Below w.heap.size w w')) ?_ ?_
       rotate_left
       ·intro hCont
        refine two_ (i := 7) (j := 11) (Ni := some 81) (Nj := some 12) #[true, true, true, true, true, true, true, true, false, false, false, false, false, false] #[true, true, true, true, true, true, true, false, false, false, false, true, false, false] rfl rfl rfl rfl (two_of HT_.out (by kernel_rfl)) (by decide) (by decide) (fun K hK => ?_) (fun K hK => ?_)
        ·skip
         refine gG Try.func14 #[.agg #[.int .i64 aj, .int .i64 ak, .int .i64 al, .slice Ao15 ah.length co15], .agg #[.int .i64 ai, .slice Ao61 ab.length co61], .int .i64 (rd aF aE), .slice Ao62 aC.length co62] ?_
         with_reducible refine (impl_PutPiece.calls k2 aj ak al _ _ ah ai _ _ ab (rd aF aE) _ _ aC aB ap true _ ?side1 ?side2 ?side3 ?side4 ?side5 ?side6 A49.out).mono ?_
         (case side1 => have X_ := (Kd.R_reads' ad.out).2.2; exact TC)
         (case side2 => exact (Kd.R_reads' ad.out).2.1)
         (case side3 => have X_ := (Kd.R_reads' ac.out).2.2; exact TC)
         (case side4 => exact (Kd.R_reads' ac.out).2.1)
         (case side5 => have X_ := (Kd.R_reads' am.out).2.2; exact TC)
         (case side6 => exact (Kd.R_reads' am.out).2.1)
         rintro e w64 ⟨bd, rfl, ho0, hb⟩
         have a2 := (hb.cell (World.block_lt_of_cell? _ _ (hHeld.2.2.2.2.2.2))).trans (hHeld.2.2.2.2.2.2)
         refine ⟨_, rfl, ?_⟩
         have n0_ := aM (Kd.R_elder' (by have X_ := av.out; exact TR) (Kd.R_base ho0) hb)
         have n1_ := aM (Kd.R_below (by have X_ := ao.out; exact TR) hb)
         have n2_ := aM (Kd.R_below (by have X_ := ad.out; exact TR) hb)
         have n3_ := aM (Kd.R_elder' (by have X_ := ac.out; exact TR) (Kd.R_base ho0) hb)
         have n4_ := aM (Kd.R_elder' (by have X_ := am.out; exact TR) (Kd.R_base ho0) hb)
         have n5_ := aM (Kd.R_lower (Kd.R_new' (Kd.R_new' (Kd.R_new' ho0 (Kd.R_lt (by have X_ := av.out; exact TR))) (Kd.R_lt (by have X_ := ac.out; exact TR))) (Kd.R_lt (by have X_ := am.out; exact TR))) (below_size TB))
         have n6_ := aM (blk_below (g := gb840) (o := .cells #[.int .i64 aj, .int .i64 ak, .int .i64 al, .slice Ao15 ah.length co15] 28 (0, 0)) TK hb)
         have n7_ := aM (blk_below (g := gb845) (o := .cells #[.int .i64 ai, .slice Ao61 ab.length co61] 31 (0, 0)) TK hb)
         have n8_ := aM (below_step TB hb)
         clear av
         clear ao
         clear ad
         clear ac
         clear am
         clear aa
         clear ae
         clear HB
         have av := n0_
         have ao := n1_
         have ad := n2_
         have ac := n3_
         have am := n4_
         have ax := n5_
         have aa := n6_
         have ae := n7_
         have HB := n8_
         clear n0_ n1_ n2_ n3_ n4_ n5_ n6_ n7_ n8_
         (try clear hb)
         (try clear hb2)
         (try clear hk)
         (try clear hi)
         (try clear ho0)
         refine hK.out _ _ ⟨(blk_cell aa.out 0).trans rfl, (blk_cell aa.out 1).trans rfl, (blk_cell aa.out 2).trans rfl, (blk_cell aa.out 3).trans rfl, (blk_cell ae.out 0).trans rfl, (blk_cell ae.out 1).trans rfl, a2⟩ (fun hHeld => ?_)
         clear hK K
         refine nR ?_
         refine pPe 8 (some 73) #[true, true, true, true, true, true, true, true, true, false, false, false, false, false] ?_
         refine pPe 9 (some 82) #[true, true, true, true, true, true, true, true, true, true, false, false, false, false] ?_
         refine pPe 10 (some 83) #[true, true, true, true, true, true, true, true, true, true, true, false, false, false] ?_
         refine pOe 11 (some 12) #[true, true, true, true, true, true, true, true, true, true, true, true, false, false] (fun K hK => ?_)
         refine box_step ?hg (N := 12) ?hd (cs := #[.int .i64 0, .slice none 0 0]) (t := 31) ?hr ?_; (case hd => rfl); (case hg => rfl); (case hr => first | (go_simp; done) | (go_simp; rfl))
         intro af hg w65 hbox hb
         have a2 := (hb.cell (World.block_lt_of_cell? _ _ (hHeld.2.2.2.2.2.2))).trans (hHeld.2.2.2.2.2.2)
         have n0_ := aM (Kd.R_below (by have X_ := av.out; exact TR) hb)
         have n1_ := aM (Kd.R_below (by have X_ := ao.out; exact TR) hb)
         have n2_ := aM (Kd.R_below (by have X_ := ad.out; exact TR) hb)
         have n3_ := aM (Kd.R_below (by have X_ := ac.out; exact TR) hb)
         have n4_ := aM (Kd.R_below (by have X_ := am.out; exact TR) hb)
         have n5_ := aM (Kd.R_below (by have X_ := ax.out; exact TR) hb)
         have n6_ := aM (blk_below (g := gb840) (o := .cells #[.int .i64 aj, .int .i64 ak, .int .i64 al, .slice Ao15 ah.length co15] 28 (0, 0)) TK hb)
         have n7_ := aM (blk_below (g := gb845) (o := .cells #[.int .i64 ai, .slice Ao61 ab.length co61] 31 (0, 0)) TK hb)
         have n8_ := aM (below_step TB hb)
         have n9_ := aM (hbox)
         have aT := aM ((by rw [hg]; exact (below_size TB) : w.heap.size ≤ af))
         have aU := aM ((by rw [hg]; exact (below_size TB) : w.heap.size ≤ af))
         have aX := aM ((by rw [hg]; exact Nat.ne_of_lt (blk_lt (g := gb840) (o := .cells #[.int .i64 aj, .int .i64 ak, .int .i64 al, .slice Ao15 ah.length co15] 28 (0, 0)) TK) : gb840 ≠ af))
         have a5 := aM ((by rw [hg]; exact Nat.ne_of_gt (blk_lt (g := gb840) (o := .cells #[.int .i64 aj, .int .i64 ak, .int .i64 al, .slice Ao15 ah.length co15] 28 (0, 0)) TK) : af ≠ gb840))
         have a7 := aM ((by rw [hg]; exact Nat.ne_of_lt (blk_lt (g := gb845) (o := .cells #[.int .i64 ai, .slice Ao61 ab.length co61] 31 (0, 0)) TK) : gb845 ≠ af))
         have be := aM ((by rw [hg]; exact Nat.ne_of_gt (blk_lt (g := gb845) (o := .cells #[.int .i64 ai, .slice Ao61 ab.length co61] 31 (0, 0)) TK) : af ≠ gb845))
         clear av
         clear ao
         clear ad
         clear ac
         clear am
         clear ax
         clear aa
         clear ae
         clear HB
         have av := n0_
         have ao := n1_
         have ad := n2_
         have ac := n3_
         have am := n4_
         have ax := n5_
         have aa := n6_
         have ae := n7_
         have HB := n8_
         have aq := n9_
         have bo := aT
         have bm := aU
         have aJ := aX
         have aY := a5
         have aQ := a7
         have a4 := be
         clear n0_ n1_ n2_ n3_ n4_ n5_ n6_ n7_ n8_ n9_ aT aU aX a5 a7 be
         clear hb hbox hg
         refine hK.out _ _ ⟨(blk_cell aa.out 0).trans rfl, (blk_cell aa.out 1).trans rfl, (blk_cell aa.out 2).trans rfl, (blk_cell aa.out 3).trans rfl, (blk_cell ae.out 0).trans rfl, (blk_cell ae.out 1).trans rfl, a2⟩ (fun hHeld => ?_)
         clear hK K
         refine nR ?_
         exact norm_ (by simp only [putAll, Act.put, List.setIfInBounds_toArray, List.set_cons_zero, List.set_cons_succ]) (hCont (bd, af) _ ⟨hHeld, (by (with_reducible repeat (first | apply Kd.R_alloc | apply Kd.R_drewN | apply Kd.R_drew)); exact Kd.R_mono am.out (fun _ hk => ⟨hk.2, ⟨hk.1.1.2, hk.1.2⟩⟩)), (by (with_reducible repeat (first | apply Kd.R_alloc | apply Kd.R_drewN | apply Kd.R_drew)); exact Kd.R_mono ax.out (fun _ hk => ⟨hk.2, ⟨hk.1.1.2, hk.1.2⟩⟩)), (by (with_reducible repeat (first | apply Kd.R_alloc | apply Kd.R_drewN | apply Kd.R_drew)); exact Kd.R_mono av.out (fun _ hk => ⟨hk.1.2, ⟨hk.2, hk.1.1⟩⟩)), (by have X_ := ao.out; exact TR), (by have X_ := ad.out; exact TR), (by (with_reducible repeat (first | apply Kd.R_alloc | apply Kd.R_drewN | apply Kd.R_drew)); exact Kd.R_mono ac.out (fun _ hk => ⟨hk.1.2, ⟨hk.2, hk.1.1⟩⟩)), TK, TK, TK, bo.out, bm.out, aJ.out, aY.out, aQ.out, a4.out, TB⟩)
        ·skip
         refine box_step ?hg (N := 12) ?hd (cs := #[.int .i64 0, .slice none 0 0]) (t := 31) ?hr ?_; (case hd => rfl); (case hg => rfl); (case hr => first | (go_simp; done) | (go_simp; rfl))
         intro af hg w64 hbox hb
         have a2 := (hb.cell (World.block_lt_of_cell? _ _ (hHeld.2.2.2.2.2.2))).trans (hHeld.2.2.2.2.2.2)
         have n0_ := aM (Kd.R_below (by have X_ := av.out; exact TR) hb)
         have n1_ := aM (Kd.R_below (by have X_ := ao.out; exact TR) hb)
         have n2_ := aM (Kd.R_below (by have X_ := ad.out; exact TR) hb)
         have n3_ := aM (Kd.R_below (by have X_ := ac.out; exact TR) hb)
         have n4_ := aM (Kd.R_below (by have X_ := am.out; exact TR) hb)
         have n5_ := aM (blk_below (g := gb840) (o := .cells #[.int .i64 aj, .int .i64 ak, .int .i64 al, .slice Ao15 ah.length co15] 28 (0, 0)) TK hb)
         have n6_ := aM (blk_below (g := gb845) (o := .cells #[.int .i64 ai, .slice Ao61 ab.length co61] 31 (0, 0)) TK hb)
         have n7_ := aM (below_step TB hb)
         have n8_ := aM (hbox)
         have n9_ := aM ((by rw [hg]; exact (below_size TB) : w.heap.size ≤ af))
         have aT := aM ((by rw [hg]; exact (below_size TB) : w.heap.size ≤ af))
         have aU := aM ((by rw [hg]; exact Nat.ne_of_lt (blk_lt (g := gb840) (o := .cells #[.int .i64 aj, .int .i64 ak, .int .i64 al, .slice Ao15 ah.length co15] 28 (0, 0)) TK) : gb840 ≠ af))
         have aX := aM ((by rw [hg]; exact Nat.ne_of_gt (blk_lt (g := gb840) (o := .cells #[.int .i64 aj, .int .i64 ak, .int .i64 al, .slice Ao15 ah.length co15] 28 (0, 0)) TK) : af ≠ gb840))
         have a5 := aM ((by rw [hg]; exact Nat.ne_of_lt (blk_lt (g := gb845) (o := .cells #[.int .i64 ai, .slice Ao61 ab.length co61] 31 (0, 0)) TK) : gb845 ≠ af))
         have a7 := aM ((by rw [hg]; exact Nat.ne_of_gt (blk_lt (g := gb845) (o := .cells #[.int .i64 ai, .slice Ao61 ab.length co61] 31 (0, 0)) TK) : af ≠ gb845))
         clear av
         clear ao
         clear ad
         clear ac
         clear am
         clear aa
         clear ae
         clear HB
         have av := n0_
         have ao := n1_
         have ad := n2_
         have ac := n3_
         have am := n4_
         have aa := n5_
         have ae := n6_
         have HB := n7_
         have aq := n8_
         have bo := n9_
         have bm := aT
         have aJ := aU
         have aY := aX
         have aQ := a5
         have a4 := a7
         clear n0_ n1_ n2_ n3_ n4_ n5_ n6_ n7_ n8_ n9_ aT aU aX a5 a7
         clear hb hbox hg
         refine hK.out _ _ ⟨(blk_cell aa.out 0).trans rfl, (blk_cell aa.out 1).trans rfl, (blk_cell aa.out 2).trans rfl, (blk_cell aa.out 3).trans rfl, (blk_cell ae.out 0).trans rfl, (blk_cell ae.out 1).trans rfl, a2⟩ (fun hHeld => ?_)
         clear hK K
         refine nR ?_
         refine pOe 7 (some 81) #[true, true, true, true, true, true, true, true, false, false, false, true, false, false] (fun K hK => ?_)
         refine gG Try.func14 #[.agg #[.int .i64 aj, .int .i64 ak, .int .i64 al, .slice Ao15 ah.length co15], .agg #[.int .i64 ai, .slice Ao61 ab.length co61], .int .i64 (rd aF aE), .slice Ao62 aC.length co62] ?_
         with_reducible refine (impl_PutPiece.calls k2 aj ak al _ _ ah ai _ _ ab (rd aF aE) _ _ aC aB ap true _ ?side1 ?side2 ?side3 ?side4 ?side5 ?side6 A49.out).mono ?_
         (case side1 => have X_ := (Kd.R_reads' ad.out).2.2; exact TC)
         (case side2 => exact (Kd.R_reads' ad.out).2.1)
         (case side3 => have X_ := (Kd.R_reads' ac.out).2.2; exact TC)
         (case side4 => exact (Kd.R_reads' ac.out).2.1)
         (case side5 => have X_ := (Kd.R_reads' am.out).2.2; exact TC)
         (case side6 => exact (Kd.R_reads' am.out).2.1)
         rintro e w65 ⟨bd, rfl, ho0, hb⟩
         have a2 := (hb.cell (World.block_lt_of_cell? _ _ (hHeld.2.2.2.2.2.2))).trans (hHeld.2.2.2.2.2.2)
         refine ⟨_, rfl, ?_⟩
         have n0_ := aM (Kd.R_elder' (by have X_ := av.out; exact TR) (Kd.R_base ho0) hb)
         have n1_ := aM (Kd.R_below (by have X_ := ao.out; exact TR) hb)
         have n2_ := aM (Kd.R_below (by have X_ := ad.out; exact TR) hb)
         have n3_ := aM (Kd.R_elder' (by have X_ := ac.out; exact TR) (Kd.R_base ho0) hb)
         have n4_ := aM (Kd.R_elder' (by have X_ := am.out; exact TR) (Kd.R_base ho0) hb)
         have n5_ := aM (Kd.R_lower (Kd.R_new' (Kd.R_new' (Kd.R_new' ho0 (Kd.R_lt (by have X_ := av.out; exact TR))) (Kd.R_lt (by have X_ := ac.out; exact TR))) (Kd.R_lt (by have X_ := am.out; exact TR))) (below_size TB))
         have n6_ := aM (blk_below (g := gb840) (o := .cells #[.int .i64 aj, .int .i64 ak, .int .i64 al, .slice Ao15 ah.length co15] 28 (0, 0)) TK hb)
         have n7_ := aM (blk_below (g := gb845) (o := .cells #[.int .i64 ai, .slice Ao61 ab.length co61] 31 (0, 0)) TK hb)
         have n8_ := aM (blk_below (g := af) (o := .cells #[.int .i64 0, .slice none 0 0] 31 (0, 0)) TK hb)
         have n9_ := aM (below_step TB hb)
         clear av
         clear ao
         clear ad
         clear ac
         clear am
         clear aa
         clear ae
         clear aq
         clear HB
         have av := n0_
         have ao := n1_
         have ad := n2_
         have ac := n3_
         have am := n4_
         have ax := n5_
         have aa := n6_
         have ae := n7_
         have aq := n8_
         have HB := n9_
         clear n0_ n1_ n2_ n3_ n4_ n5_ n6_ n7_ n8_ n9_
         (try clear hb)
         (try clear hb2)
         (try clear hk)
         (try clear hi)
         (try clear ho0)
         refine hK.out _ _ ⟨(blk_cell aa.out 0).trans rfl, (blk_cell aa.out 1).trans rfl, (blk_cell aa.out 2).trans rfl, (blk_cell aa.out 3).trans rfl, (blk_cell ae.out 0).trans rfl, (blk_cell ae.out 1).trans rfl, a2⟩ (fun hHeld => ?_)
         clear hK K
         refine nR ?_
         refine pPe 8 (some 73) #[true, true, true, true, true, true, true, true, true, false, false, true, false, false] ?_
         refine pPe 9 (some 82) #[true, true, true, true, true, true, true, true, true, true, false, true, false, false] ?_
         refine pPe 10 (some 83) #[true, true, true, true, true, true, true, true, true, true, true, true, false, false] ?_
         exact norm_ (by simp only [putAll, Act.put, List.setIfInBounds_toArray, List.set_cons_zero, List.set_cons_succ]) (hCont (bd, af) _ ⟨hHeld, (by (with_reducible repeat (first | apply Kd.R_alloc | apply Kd.R_drewN | apply Kd.R_drew)); exact Kd.R_mono am.out (fun _ hk => ⟨hk.2, ⟨hk.1.1.2, hk.1.2⟩⟩)), (by (with_reducible repeat (first | apply Kd.R_alloc | apply Kd.R_drewN | apply Kd.R_drew)); exact Kd.R_mono ax.out (fun _ hk => ⟨hk.2, ⟨hk.1.1.2, hk.1.2⟩⟩)), (by (with_reducible repeat (first | apply Kd.R_alloc | apply Kd.R_drewN | apply Kd.R_drew)); exact Kd.R_mono av.out (fun _ hk => ⟨hk.1.2, ⟨hk.2, hk.1.1⟩⟩)), (by have X_ := ao.out; exact TR), (by have X_ := ad.out; exact TR), (by (with_reducible repeat (first | apply Kd.R_alloc | apply Kd.R_drewN | apply Kd.R_drew)); exact Kd.R_mono ac.out (fun _ hk => ⟨hk.1.2, ⟨hk.2, hk.1.1⟩⟩)), TK, TK, TK, bo.out, bm.out, aJ.out, aY.out, aQ.out, a4.out, TB⟩)
       rintro ⟨bd, af⟩ w66 ⟨hS_, h0_, h1_, h2_, h3_, h4_, h5_, h6_, h7_, h8_, h9_, bx, br, bv, bu, bs, bq⟩
       clear av ao ad ac am aa ae HB
       have am : Aside0 (Kd.R (Kd.int .u8) 5 w66 w.heap.size (fun k_ => some k_ ≠ (bd : Value).ownBlock ∧ some k_ ≠ (.slice Ao11 aA.length co11 : Value).ownBlock ∧ some k_ ≠ (.slice Ao61 ab.length co61 : Value).ownBlock) (.slice Ao62 aC.length co62) aC) := ⟨h0_⟩
       have ax : Aside0 (Kd.R (Kd.int .u8) 5 w66 w.heap.size (fun k_ => some k_ ≠ (.slice Ao62 aC.length co62 : Value).ownBlock ∧ some k_ ≠ (.slice Ao11 aA.length co11 : Value).ownBlock ∧ some k_ ≠ (.slice Ao61 ab.length co61 : Value).ownBlock) bd ap) := ⟨h1_⟩
       have av : Aside0 (Kd.R (Kd.int .u8) 5 w66 w.heap.size (fun k_ => some k_ ≠ (.slice Ao62 aC.length co62 : Value).ownBlock ∧ some k_ ≠ (bd : Value).ownBlock ∧ some k_ ≠ (.slice Ao61 ab.length co61 : Value).ownBlock) (.slice Ao11 aA.length co11) aA) := ⟨h2_⟩
       have ao : Aside0 (Kd.R (Kd.int .i64) 3 w66 w.heap.size (fun _ => True) (.slice (some aV) aF.length bj) aF) := ⟨h3_⟩
       have ad : Aside0 (Kd.R k48 48 w66 w.heap.size (fun _ => True) (.slice Ao15 ah.length co15) ah) := ⟨h4_⟩
       have ac : Aside0 (Kd.R (Kd.int .u8) 5 w66 w.heap.size (fun k_ => some k_ ≠ (.slice Ao62 aC.length co62 : Value).ownBlock ∧ some k_ ≠ (bd : Value).ownBlock ∧ some k_ ≠ (.slice Ao11 aA.length co11 : Value).ownBlock) (.slice Ao61 ab.length co61) ab) := ⟨h5_⟩
       have aa : Aside0 (w66.heap[gb840]? = some (.cells #[.int .i64 aj, .int .i64 ak, .int .i64 al, .slice Ao15 ah.length co15] 28 (0, 0))) := ⟨h6_⟩
       have ae : Aside0 (w66.heap[gb845]? = some (.cells #[.int .i64 ai, .slice Ao61 ab.length co61] 31 (0, 0))) := ⟨h7_⟩
       have aq : Aside0 (w66.heap[af]? = some (.cells #[.int .i64 0, .slice none 0 0] 31 (0, 0))) := ⟨h8_⟩
       have bo : Aside0 (w.heap.size ≤ af) := ⟨h9_⟩
       have bm : Aside0 (w.heap.size ≤ af) := ⟨bx⟩
       have aJ : Aside0 (gb840 ≠ af) := ⟨br⟩
       have aY : Aside0 (af ≠ gb840) := ⟨bv⟩
       have aQ : Aside0 (gb845 ≠ af) := ⟨bu⟩
       have a4 : Aside0 (af ≠ gb845) := ⟨bs⟩
       have HB : Aside0 (Below w.heap.size w w66) := ⟨bq⟩
       clear h0_ h1_ h2_ h3_ h4_ h5_ h6_ h7_ h8_ h9_ bx br bv bu bs bq
       have hHeld : w66.cell? ⟨gb840, 0, none⟩ = some (.int .i64 aj) ∧ w66.cell? ⟨gb840, 1, none⟩ = some (.int .i64 ak) ∧ w66.cell? ⟨gb840, 2, none⟩ = some (.int .i64 al) ∧ w66.cell? ⟨gb840, 3, none⟩ = some (.slice Ao15 ah.length co15) ∧ w66.cell? ⟨gb845, 0, none⟩ = some (.int .i64 ai) ∧ w66.cell? ⟨gb845, 1, none⟩ = some (.slice Ao61 ab.length co61) ∧ w66.cell? (aV.add (aE).toNat) = some (.int .i64 (rd aF aE)) := hS_
       obtain ⟨ay, az, eo68⟩ := Kd.R_slice ax.out
       (first | subst eo68 | (injection eo68 with f1_ f2_ f3_; have f4_ := f1_.symm; have f5_ := f3_.symm; clear f1_ f2_ f3_; subst f4_; subst f5_))
       refine norm_ (a' := ?_) ?_ ?_
       rotate_left
       ·simp only [putAll, Act.put, List.setIfInBounds_toArray, List.set_cons_zero, List.set_cons_succ]
        rfl
       refine pOe 12 none #[true, true, true, true, true, true, true, true, true, true, true, true, true, false] (fun K hK => ?_)
       have hs67 : w66.cell? ⟨af, 0, none⟩ = some (.int .i64 0) := (blk_cell aq.out 0).trans rfl
       have hfs67 := blk_frozen aq.out 0
       have hns67_0 := aJ.out
       have hns67_1 := aQ.out
       have hms67_0 := aY.out
       have hms67_1 := a4.out
       have hs69 : w66.cell? ⟨af, 1, none⟩ = some (.slice none 0 0) := (blk_cell aq.out 1).trans rfl
       have hfs69 := blk_frozen aq.out 1
       have hns69_0 := aJ.out
       have hns69_1 := aQ.out
       have hms69_0 := aY.out
       have hms69_1 := a4.out
       refine skip_ (w1 := ?_) (by rfl) rfl ?_ ?_
       rotate_left
       ·go_simp
        rfl
       refine hK.out _ _ ⟨((cell_far (p := ⟨af, _, none⟩) aJ.out _).trans (((cell_far (p := ⟨af, _, none⟩) aJ.out _).trans (hHeld.1)))), ((cell_far (p := ⟨af, _, none⟩) aJ.out _).trans (((cell_far (p := ⟨af, _, none⟩) aJ.out _).trans (hHeld.2.1)))), ((cell_far (p := ⟨af, _, none⟩) aJ.out _).trans (((cell_far (p := ⟨af, _, none⟩) aJ.out _).trans (hHeld.2.2.1)))), ((cell_far (p := ⟨af, _, none⟩) aJ.out _).trans (((cell_far (p := ⟨af, _, none⟩) aJ.out _).trans (hHeld.2.2.2.1)))), ((cell_far (p := ⟨af, _, none⟩) aQ.out _).trans (((cell_far (p := ⟨af, _, none⟩) aQ.out _).trans (hHeld.2.2.2.2.1)))), ((cell_far (p := ⟨af, _, none⟩) aQ.out _).trans (((cell_far (p := ⟨af, _, none⟩) aQ.out _).trans (hHeld.2.2.2.2.2.1)))), ((cell_far (p := ⟨af, _, none⟩) (by first | exact Kd.own_blk (Kd.R_ne ao.out aq.out (by decide)) | (rw [add_block]; exact Kd.own_blk (Kd.R_ne ao.out aq.out (by decide))) | (show (Addr.add _ _).block ≠ _; rw [add_block]; exact Kd.own_blk (Kd.R_ne ao.out aq.out (by decide))) | (dsimp only; exact Kd.own_blk (Kd.R_ne ao.out aq.out (by decide)))) _).trans (((cell_far (p := ⟨af, _, none⟩) (by first | exact Kd.own_blk (Kd.R_ne ao.out aq.out (by decide)) | (rw [add_block]; exact Kd.own_blk (Kd.R_ne ao.out aq.out (by decide))) | (show (Addr.add _ _).block ≠ _; rw [add_block]; exact Kd.own_blk (Kd.R_ne ao.out aq.out (by decide))) | (dsimp only; exact Kd.own_blk (Kd.R_ne ao.out aq.out (by decide)))) _).trans (hHeld.2.2.2.2.2.2))))⟩ (fun hHeld => ?_)
       clear hK K
       refine pPe 13 (some 13) #[true, true, true, true, true, true, true, true, true, true, true, true, true, true] ?_
       refine done_ (done_of HT_.out (by kernel_rfl)) ?_
       try go_wp2
       have n0_ : Aside0 (Kd.R (Kd.int .u8) 5 ((w66.setCell ⟨af, 0, none⟩ (.int .i64 aB)).setCell ⟨af, 1, none⟩ (.slice ay ap.length az)) w.heap.size (fun k_ => some k_ ≠ (.slice Ao61 ab.length co61 : Value).ownBlock ∧ some k_ ≠ (.slice Ao62 aC.length co62 : Value).ownBlock ∧ some k_ ≠ (.slice ay ap.length az : Value).ownBlock) (.slice Ao11 aA.length co11) aA) := ⟨by (with_reducible repeat (first | apply Kd.R_alloc | apply Kd.R_drewN | apply Kd.R_drew)); exact Kd.R_mono (Kd.R_far (p := ⟨af, 1, none⟩) (Kd.R_far (p := ⟨af, 0, none⟩) (Kd.R_types av.out aq.out (by decide)) (fun _ hk => hk.2) (.int .i64 aB)) (fun _ hk => hk.2) (.slice ay ap.length az)) (fun _ hk => ⟨hk.1.2.2, ⟨hk.1.1, hk.1.2.1⟩⟩)⟩
       have n1_ : Aside0 (Kd.R (Kd.int .i64) 3 ((w66.setCell ⟨af, 0, none⟩ (.int .i64 aB)).setCell ⟨af, 1, none⟩ (.slice ay ap.length az)) w.heap.size (fun _ => True) (.slice (some aV) aF.length bj) aF) := ⟨by (with_reducible repeat (first | apply Kd.R_alloc | apply Kd.R_drewN | apply Kd.R_drew)); exact Kd.R_mono (Kd.R_far (p := ⟨af, 1, none⟩) (Kd.R_far (p := ⟨af, 0, none⟩) (Kd.R_types ao.out aq.out (by decide)) (fun _ hk => hk.2) (.int .i64 aB)) (fun _ hk => hk.2) (.slice ay ap.length az)) (fun _ hk => trivial)⟩
       have n2_ : Aside0 (Kd.R k48 48 ((w66.setCell ⟨af, 0, none⟩ (.int .i64 aB)).setCell ⟨af, 1, none⟩ (.slice ay ap.length az)) w.heap.size (fun _ => True) (.slice Ao15 ah.length co15) ah) := ⟨by (with_reducible repeat (first | apply Kd.R_alloc | apply Kd.R_drewN | apply Kd.R_drew)); exact Kd.R_mono (Kd.R_far (p := ⟨af, 1, none⟩) (Kd.R_far (p := ⟨af, 0, none⟩) (Kd.R_types ad.out aq.out (by decide)) (fun _ hk => hk.2) (.int .i64 aB)) (fun _ hk => hk.2) (.slice ay ap.length az)) (fun _ hk => trivial)⟩
       have n3_ : Aside0 (Kd.R (Kd.int .u8) 5 ((w66.setCell ⟨af, 0, none⟩ (.int .i64 aB)).setCell ⟨af, 1, none⟩ (.slice ay ap.length az)) w.heap.size (fun k_ => some k_ ≠ (.slice Ao11 aA.length co11 : Value).ownBlock ∧ some k_ ≠ (.slice Ao62 aC.length co62 : Value).ownBlock ∧ some k_ ≠ (.slice ay ap.length az : Value).ownBlock) (.slice Ao61 ab.length co61) ab) := ⟨by (with_reducible repeat (first | apply Kd.R_alloc | apply Kd.R_drewN | apply Kd.R_drew)); exact Kd.R_mono (Kd.R_far (p := ⟨af, 1, none⟩) (Kd.R_far (p := ⟨af, 0, none⟩) (Kd.R_types ac.out aq.out (by decide)) (fun _ hk => hk.2) (.int .i64 aB)) (fun _ hk => hk.2) (.slice ay ap.length az)) (fun _ hk => ⟨hk.1.2.2, ⟨hk.1.1, hk.1.2.1⟩⟩)⟩
       have n4_ : Aside0 (Kd.R (Kd.int .u8) 5 ((w66.setCell ⟨af, 0, none⟩ (.int .i64 aB)).setCell ⟨af, 1, none⟩ (.slice ay ap.length az)) w.heap.size (fun k_ => some k_ ≠ (.slice Ao11 aA.length co11 : Value).ownBlock ∧ some k_ ≠ (.slice Ao61 ab.length co61 : Value).ownBlock ∧ some k_ ≠ (.slice ay ap.length az : Value).ownBlock) (.slice Ao62 aC.length co62) aC) := ⟨by (with_reducible repeat (first | apply Kd.R_alloc | apply Kd.R_drewN | apply Kd.R_drew)); exact Kd.R_mono (Kd.R_far (p := ⟨af, 1, none⟩) (Kd.R_far (p := ⟨af, 0, none⟩) (Kd.R_types am.out aq.out (by decide)) (fun _ hk => hk.2) (.int .i64 aB)) (fun _ hk => hk.2) (.slice ay ap.length az)) (fun _ hk => ⟨hk.1.2.1, ⟨hk.1.2.2, hk.1.1⟩⟩)⟩
       have n5_ : Aside0 (Kd.R (Kd.int .u8) 5 ((w66.setCell ⟨af, 0, none⟩ (.int .i64 aB)).setCell ⟨af, 1, none⟩ (.slice ay ap.length az)) w.heap.size (fun k_ => some k_ ≠ (.slice Ao11 aA.length co11 : Value).ownBlock ∧ some k_ ≠ (.slice Ao61 ab.length co61 : Value).ownBlock ∧ some k_ ≠ (.slice Ao62 aC.length co62 : Value).ownBlock) (.slice ay ap.length az) ap) := ⟨by (with_reducible repeat (first | apply Kd.R_alloc | apply Kd.R_drewN | apply Kd.R_drew)); exact Kd.R_mono (Kd.R_far (p := ⟨af, 1, none⟩) (Kd.R_far (p := ⟨af, 0, none⟩) (Kd.R_types ax.out aq.out (by decide)) (fun _ hk => hk.2) (.int .i64 aB)) (fun _ hk => hk.2) (.slice ay ap.length az)) (fun _ hk => ⟨hk.1.2.1, ⟨hk.1.2.2, hk.1.1⟩⟩)⟩
       have n6_ : Aside0 (((w66.setCell ⟨af, 0, none⟩ (.int .i64 aB)).setCell ⟨af, 1, none⟩ (.slice ay ap.length az)).heap[gb840]? = some (.cells #[.int .i64 aj, .int .i64 ak, .int .i64 al, .slice Ao15 ah.length co15] 28 (0, 0))) := ⟨by (with_reducible repeat (first | refine blk_drewN ?_ _ | refine blk_drew ?_ | refine blk_alloc ?_ _)); refine blk_far ?_ aJ.out _; (with_reducible repeat (first | refine blk_drewN ?_ _ | refine blk_drew ?_ | refine blk_alloc ?_ _)); refine blk_far ?_ aJ.out _; (with_reducible repeat (first | refine blk_drewN ?_ _ | refine blk_drew ?_ | refine blk_alloc ?_ _)); exact aa.out⟩
       have n7_ : Aside0 (((w66.setCell ⟨af, 0, none⟩ (.int .i64 aB)).setCell ⟨af, 1, none⟩ (.slice ay ap.length az)).heap[gb845]? = some (.cells #[.int .i64 ai, .slice Ao61 ab.length co61] 31 (0, 0))) := ⟨by (with_reducible repeat (first | refine blk_drewN ?_ _ | refine blk_drew ?_ | refine blk_alloc ?_ _)); refine blk_far ?_ aQ.out _; (with_reducible repeat (first | refine blk_drewN ?_ _ | refine blk_drew ?_ | refine blk_alloc ?_ _)); refine blk_far ?_ aQ.out _; (with_reducible repeat (first | refine blk_drewN ?_ _ | refine blk_drew ?_ | refine blk_alloc ?_ _)); exact ae.out⟩
       have n8_ : Aside0 (((w66.setCell ⟨af, 0, none⟩ (.int .i64 aB)).setCell ⟨af, 1, none⟩ (.slice ay ap.length az)).heap[af]? = some (.cells #[.int .i64 aB, .slice ay ap.length az] 31 (0, 0))) := ⟨by (with_reducible repeat (first | refine blk_drewN ?_ _ | refine blk_drew ?_ | refine blk_alloc ?_ _)); refine blk_put (cs := #[.int .i64 aB, .slice none 0 0]) ?_ 1 _ rfl; (with_reducible repeat (first | refine blk_drewN ?_ _ | refine blk_drew ?_ | refine blk_alloc ?_ _)); refine blk_put (cs := #[.int .i64 0, .slice none 0 0]) ?_ 0 _ rfl; (with_reducible repeat (first | refine blk_drewN ?_ _ | refine blk_drew ?_ | refine blk_alloc ?_ _)); exact aq.out⟩
       have n9_ : Aside0 (Below w.heap.size w ((w66.setCell ⟨af, 0, none⟩ (.int .i64 aB)).setCell ⟨af, 1, none⟩ (.slice ay ap.length az))) := ⟨TB⟩
       (try clear av)
       (try clear ao)
       (try clear ad)
       (try clear ac)
       (try clear am)
       (try clear ax)
       (try clear aa)
       (try clear ae)
       (try clear aq)
       (try clear HB)
       generalize ((w66.setCell ⟨af, 0, none⟩ (.int .i64 aB)).setCell ⟨af, 1, none⟩ (.slice ay ap.length az)) = w70 at n0_ n1_ n2_ n3_ n4_ n5_ n6_ n7_ n8_ n9_ ⊢
       have av := n0_
       have ao := n1_
       have ad := n2_
       have ac := n3_
       have am := n4_
       have ax := n5_
       have aa := n6_
       have ae := n7_
       have aq := n8_
       have HB := n9_
       clear n0_ n1_ n2_ n3_ n4_ n5_ n6_ n7_ n8_ n9_
       replace av := aM (Kd.R_drew av.out)
       replace ao := aM (Kd.R_drew ao.out)
       replace ad := aM (Kd.R_drew ad.out)
       replace ac := aM (Kd.R_drew ac.out)
       replace am := aM (Kd.R_drew am.out)
       replace ax := aM (Kd.R_drew ax.out)
       replace aa := aM (blk_drew aa.out)
       replace ae := aM (blk_drew ae.out)
       replace aq := aM (blk_drew aq.out)
       replace HB := aM (below_drew1 HB.out)
       have bK : 0 ≤ (aE : Int) := DT
       have bR : aE < (aF.length : Int) := DT
       obtain ⟨ad873, e873, bB⟩ := Kd.at_int (Kd.R_reads' ao.out).2.2 aE bK bR
       obtain rfl : aV = ad873 := (by injection e873)
       replace bK := eq_true bK
       replace bR := eq_true bR
       refine start_ (n := 14) (S := fun w' => w'.cell? ⟨gb840, 0, none⟩ = some (.int .i64 aj) ∧ w'.cell? ⟨gb840, 1, none⟩ = some (.int .i64 ak) ∧ w'.cell? ⟨gb840, 2, none⟩ = some (.int .i64 al) ∧ w'.cell? ⟨gb840, 3, none⟩ = some (.slice Ao15 ah.length co15) ∧ w'.cell? ⟨af, 0, none⟩ = some (.int .i64 aB) ∧ w'.cell? ⟨af, 1, none⟩ = some (.slice ay ap.length az) ∧ w'.cell? (aV.add (aE).toNat) = some (.int .i64 (rd aF aE))) (ds := []) #[false, false, false, false, false, false, false, false, false, false, false, false, false, false] (by kernel_rfl) rfl rfl ⟨(blk_cell aa.out 0).trans rfl, (blk_cell aa.out 1).trans rfl, (blk_cell aa.out 2).trans rfl, (blk_cell aa.out 3).trans rfl, (blk_cell aq.out 0).trans rfl, (blk_cell aq.out 1).trans rfl, bB⟩ (fun hHeld => ?_); refine with_tabW laws_FnBuilds.tab14 laws_FnBuilds.bits14 (fun HT_ HW_ => ?_)
       generalize w70.drew = w71 at av ao ad ac am ax aa ae aq HB am ax bB hHeld ⊢
       refine pPe 2 (some 87) #[false, false, true, false, false, false, false, false, false, false, false, false, false, false] ?_
       refine pPe 3 (some 88) #[false, false, true, true, false, false, false, false, false, false, false, false, false, false] ?_
       refine pPe 4 (some 89) #[false, false, true, true, true, false, false, false, false, false, false, false, false, false] ?_
       refine pPe 6 (some 91) #[false, false, true, true, true, false, true, false, false, false, false, false, false, false] ?_
       refine pTe 0 (some 85) #[true, false, true, true, true, false, true, false, false, false, false, false, false, false] ?_
       refine pTe 1 (some 86) #[true, true, true, true, true, false, true, false, false, false, false, false, false, false] ?_
       refine pTe 5 (some 90) #[true, true, true, true, true, true, true, false, false, false, false, false, false, false] ?_
       refine join_ (σ := Value × Nat) 2 #[true, true, true, true, true, true, true, true, true, true, true, true, false, false] (fun s_ => [(92, .tuple #[.agg #[.int .i64 aS, s_.1], .bool false]), (14, .pointer (some ⟨s_.2, 0, none⟩)), (84, .tuple #[.agg #[.int .i64 aS, s_.1], .bool false]), (93, .agg #[.int .i64 aS, s_.1]), (94, .bool false)]) (fun s_ w' => (w'.cell? ⟨gb840, 0, none⟩ = some (.int .i64 aj) ∧ w'.cell? ⟨gb840, 1, none⟩ = some (.int .i64 ak) ∧ w'.cell? ⟨gb840, 2, none⟩ = some (.int .i64 al) ∧ w'.cell? ⟨gb840, 3, none⟩ = some (.slice Ao15 ah.length co15) ∧ w'.cell? ⟨af, 0, none⟩ = some (.int .i64 aB) ∧ w'.cell? ⟨af, 1, none⟩ = some (.slice ay ap.length az) ∧ w'.cell? (aV.add (aE).toNat) = some (.int .i64 (rd aF aE))) ∧ (Kd.R (Kd.int .u8) 5 w' w.heap.size (fun k_ => some k_ ≠ (.slice ay ap.length az : Value).ownBlock ∧ some k_ ≠ (s_.1 : Value).ownBlock ∧ some k_ ≠ (.slice Ao11 aA.length co11 : Value).ownBlock ∧ some k_ ≠ (.slice Ao61 ab.length co61 : Value).ownBlock) (.slice Ao62 aC.length co62) aC) ∧ (Kd.R (Kd.int .u8) 5 w' w.heap.size (fun k_ => some k_ ≠ (.slice Ao62 aC.length co62 : Value).ownBlock ∧ some k_ ≠ (s_.1 : Value).ownBlock ∧ some k_ ≠ (.slice Ao11 aA.length co11 : Value).ownBlock ∧ some k_ ≠ (.slice Ao61 ab.length co61 : Value).ownBlock) (.slice ay ap.length az) ap) ∧ (Kd.R (Kd.int .u8) 5 w' w.heap.size (fun k_ => some k_ ≠ (.slice Ao62 aC.length co62 : Value).ownBlock ∧ some k_ ≠ (.slice ay ap.length az : Value).ownBlock ∧ some k_ ≠ (.slice Ao11 aA.length co11 : Value).ownBlock ∧ some k_ ≠ (.slice Ao61 ab.length co61 : Value).ownBlock) s_.1 aH) ∧ (Kd.R (Kd.int .u8) 5 w' w.heap.size (fun k_ => some k_ ≠ (.slice Ao62 aC.length co62 : Value).ownBlock ∧ some k_ ≠ (.slice ay ap.length az : Value).ownBlock ∧ some k_ ≠ (s_.1 : Value).ownBlock ∧ some k_ ≠ (.slice Ao61 ab.length co61 : Value).ownBlock) (.slice Ao11 aA.length co11) aA) ∧ (Kd.R (Kd.int .i64) 3 w' w.heap.size (fun _ => True) (.slice (some aV) aF.length bj) aF) ∧ (Kd.R k48 48 w' w.heap.size (fun _ => True) (.slice Ao15 ah.length co15) ah) ∧ (Kd.R (Kd.int .u8) 5 w' w.heap.size (fun k_ => some k_ ≠ (.slice Ao62 aC.length co62 : Value).ownBlock ∧ some k_ ≠ (.slice ay ap.length az : Value).ownBlock ∧ some k_ ≠ (s_.1 : Value).ownBlock ∧ some k_ ≠ (.slice Ao11 aA.length co11 : Value).ownBlock) (.slice Ao61 ab.length co61) ab) ∧ (w'.heap[gb840]? = some (.cells #[.int .i64 aj, .int .i64 ak, .int .i64 al, .slice Ao15 ah.length co15] 28 (0, 0))) ∧ (w'.heap[gb845]? = some (.cells #[.int .i64 ai, .slice Ao61 ab.length co61] 31 (0, 0))) ∧ (w'.heap[af]? = some (.cells #[.int .i64 aB, .slice ay ap.length az] 31 (0, 0))) ∧ (w'.heap[s_.2]? = some (.cells #[.int .i64 0, .slice none 0 0] 31 (0, 0))) ∧ (w.heap.size ≤ s_.2) ∧ (w.heap.size ≤ s_.2) ∧ (gb840 ≠ s_.2) ∧ (s_.2 ≠ gb840) ∧ (gb845 ≠ s_.2) ∧ (s_.2 ≠ gb845) ∧ (af ≠ s_.2) ∧ (s_.2 ≠ af) ∧ (Below w.heap.size w w')) ?_ ?_
       rotate_left
       ·intro hCont
        refine two_ (i := 7) (j := 11) (Ni := some 92) (Nj := some 14) #[true, true, true, true, true, true, true, true, false, false, false, false, false, false] #[true, true, true, true, true, true, true, false, false, false, false, true, false, false] rfl rfl rfl rfl (two_of HT_.out (by kernel_rfl)) (by decide) (by decide) (fun K hK => ?_) (fun K hK => ?_)
        ·skip
         refine gG Try.func14 #[.agg #[.int .i64 aj, .int .i64 ak, .int .i64 al, .slice Ao15 ah.length co15], .agg #[.int .i64 aB, .slice ay ap.length az], .int .i64 (rd aF aE), .slice Ao62 aC.length co62] ?_
         with_reducible refine (impl_PutPiece.calls k2 aj ak al _ _ ah aB _ _ ap (rd aF aE) _ _ aC aS aH false _ ?side1 ?side2 ?side3 ?side4 ?side5 ?side6 A50.out).mono ?_
         (case side1 => have X_ := (Kd.R_reads' ad.out).2.2; exact TC)
         (case side2 => exact (Kd.R_reads' ad.out).2.1)
         (case side3 => have X_ := (Kd.R_reads' ax.out).2.2; exact TC)
         (case side4 => exact (Kd.R_reads' ax.out).2.1)
         (case side5 => have X_ := (Kd.R_reads' am.out).2.2; exact TC)
         (case side6 => exact (Kd.R_reads' am.out).2.1)
         rintro e w72 ⟨bc, rfl, ho0, hb⟩
         have a2 := (hb.cell (World.block_lt_of_cell? _ _ (hHeld.2.2.2.2.2.2))).trans (hHeld.2.2.2.2.2.2)
         refine ⟨_, rfl, ?_⟩
         have n0_ := aM (Kd.R_elder' (by have X_ := av.out; exact TR) (Kd.R_base ho0) hb)
         have n1_ := aM (Kd.R_below (by have X_ := ao.out; exact TR) hb)
         have n2_ := aM (Kd.R_below (by have X_ := ad.out; exact TR) hb)
         have n3_ := aM (Kd.R_elder' (by have X_ := ac.out; exact TR) (Kd.R_base ho0) hb)
         have n4_ := aM (Kd.R_elder' (by have X_ := am.out; exact TR) (Kd.R_base ho0) hb)
         have n5_ := aM (Kd.R_elder' (by have X_ := ax.out; exact TR) (Kd.R_base ho0) hb)
         have n6_ := aM (Kd.R_lower (Kd.R_new' (Kd.R_new' (Kd.R_new' (Kd.R_new' ho0 (Kd.R_lt (by have X_ := av.out; exact TR))) (Kd.R_lt (by have X_ := ac.out; exact TR))) (Kd.R_lt (by have X_ := am.out; exact TR))) (Kd.R_lt (by have X_ := ax.out; exact TR))) (below_size TB))
         have n7_ := aM (blk_below (g := gb840) (o := .cells #[.int .i64 aj, .int .i64 ak, .int .i64 al, .slice Ao15 ah.length co15] 28 (0, 0)) TK hb)
         have n8_ := aM (blk_below (g := gb845) (o := .cells #[.int .i64 ai, .slice Ao61 ab.length co61] 31 (0, 0)) TK hb)
         have n9_ := aM (blk_below (g := af) (o := .cells #[.int .i64 aB, .slice ay ap.length az] 31 (0, 0)) TK hb)
         have aT := aM (below_step TB hb)
         clear av
         clear ao
         clear ad
         clear ac
         clear am
         clear ax
         clear aa
         clear ae
         clear aq
         clear HB
         have av := n0_
         have ao := n1_
         have ad := n2_
         have ac := n3_
         have am := n4_
         have ax := n5_
         have aR := n6_
         have aa := n7_
         have ae := n8_
         have aq := n9_
         have HB := aT
         clear n0_ n1_ n2_ n3_ n4_ n5_ n6_ n7_ n8_ n9_ aT
         (try clear hb)
         (try clear hb2)
         (try clear hk)
         (try clear hi)
         (try clear ho0)
         refine hK.out _ _ ⟨(blk_cell aa.out 0).trans rfl, (blk_cell aa.out 1).trans rfl, (blk_cell aa.out 2).trans rfl, (blk_cell aa.out 3).trans rfl, (blk_cell aq.out 0).trans rfl, (blk_cell aq.out 1).trans rfl, a2⟩ (fun hHeld => ?_)
         clear hK K
         refine nR ?_
         refine pPe 8 (some 84) #[true, true, true, true, true, true, true, true, true, false, false, false, false, false] ?_
         refine pPe 9 (some 93) #[true, true, true, true, true, true, true, true, true, true, false, false, false, false] ?_
         refine pPe 10 (some 94) #[true, true, true, true, true, true, true, true, true, true, true, false, false, false] ?_
         refine pOe 11 (some 14) #[true, true, true, true, true, true, true, true, true, true, true, true, false, false] (fun K hK => ?_)
         refine box_step ?hg (N := 14) ?hd (cs := #[.int .i64 0, .slice none 0 0]) (t := 31) ?hr ?_; (case hd => rfl); (case hg => rfl); (case hr => first | (go_simp; done) | (go_simp; rfl))
         intro ag hg w73 hbox hb
         have a2 := (hb.cell (World.block_lt_of_cell? _ _ (hHeld.2.2.2.2.2.2))).trans (hHeld.2.2.2.2.2.2)
         have n0_ := aM (Kd.R_below (by have X_ := av.out; exact TR) hb)
         have n1_ := aM (Kd.R_below (by have X_ := ao.out; exact TR) hb)
         have n2_ := aM (Kd.R_below (by have X_ := ad.out; exact TR) hb)
         have n3_ := aM (Kd.R_below (by have X_ := ac.out; exact TR) hb)
         have n4_ := aM (Kd.R_below (by have X_ := am.out; exact TR) hb)
         have n5_ := aM (Kd.R_below (by have X_ := ax.out; exact TR) hb)
         have n6_ := aM (Kd.R_below (by have X_ := aR.out; exact TR) hb)
         have n7_ := aM (blk_below (g := gb840) (o := .cells #[.int .i64 aj, .int .i64 ak, .int .i64 al, .slice Ao15 ah.length co15] 28 (0, 0)) TK hb)
         have n8_ := aM (blk_below (g := gb845) (o := .cells #[.int .i64 ai, .slice Ao61 ab.length co61] 31 (0, 0)) TK hb)
         have n9_ := aM (blk_below (g := af) (o := .cells #[.int .i64 aB, .slice ay ap.length az] 31 (0, 0)) TK hb)
         have aT := aM (below_step TB hb)
         have aU := aM (hbox)
         have aX := aM ((by rw [hg]; exact (below_size TB) : w.heap.size ≤ ag))
         have a5 := aM ((by rw [hg]; exact (below_size TB) : w.heap.size ≤ ag))
         have a7 := aM ((by rw [hg]; exact Nat.ne_of_lt (blk_lt (g := gb840) (o := .cells #[.int .i64 aj, .int .i64 ak, .int .i64 al, .slice Ao15 ah.length co15] 28 (0, 0)) TK) : gb840 ≠ ag))
         have be := aM ((by rw [hg]; exact Nat.ne_of_gt (blk_lt (g := gb840) (o := .cells #[.int .i64 aj, .int .i64 ak, .int .i64 al, .slice Ao15 ah.length co15] 28 (0, 0)) TK) : ag ≠ gb840))
         have bw := aM ((by rw [hg]; exact Nat.ne_of_lt (blk_lt (g := gb845) (o := .cells #[.int .i64 ai, .slice Ao61 ab.length co61] 31 (0, 0)) TK) : gb845 ≠ ag))
         have bt := aM ((by rw [hg]; exact Nat.ne_of_gt (blk_lt (g := gb845) (o := .cells #[.int .i64 ai, .slice Ao61 ab.length co61] 31 (0, 0)) TK) : ag ≠ gb845))
         have bz := aM ((by rw [hg]; exact Nat.ne_of_lt (blk_lt (g := af) (o := .cells #[.int .i64 aB, .slice ay ap.length az] 31 (0, 0)) TK) : af ≠ ag))
         have n19_ := aM ((by rw [hg]; exact Nat.ne_of_gt (blk_lt (g := af) (o := .cells #[.int .i64 aB, .slice ay ap.length az] 31 (0, 0)) TK) : ag ≠ af))
         clear av
         clear ao
         clear ad
         clear ac
         clear am
         clear ax
         clear aR
         clear aa
         clear ae
         clear aq
         clear HB
         have av := n0_
         have ao := n1_
         have ad := n2_
         have ac := n3_
         have am := n4_
         have ax := n5_
         have aR := n6_
         have aa := n7_
         have ae := n8_
         have aq := n9_
         have HB := aT
         have aG := aU
         have bn := aX
         have bp := a5
         have aI := a7
         have a1 := be
         have aW := bw
         have a3 := bt
         have aP := bz
         have aZ := n19_
         clear n0_ n1_ n2_ n3_ n4_ n5_ n6_ n7_ n8_ n9_ aT aU aX a5 a7 be bw bt bz n19_
         clear hb hbox hg
         refine hK.out _ _ ⟨(blk_cell aa.out 0).trans rfl, (blk_cell aa.out 1).trans rfl, (blk_cell aa.out 2).trans rfl, (blk_cell aa.out 3).trans rfl, (blk_cell aq.out 0).trans rfl, (blk_cell aq.out 1).trans rfl, a2⟩ (fun hHeld => ?_)
         clear hK K
         refine nR ?_
         exact norm_ (by simp only [putAll, Act.put, List.setIfInBounds_toArray, List.set_cons_zero, List.set_cons_succ]) (hCont (bc, ag) _ ⟨hHeld, (by (with_reducible repeat (first | apply Kd.R_alloc | apply Kd.R_drewN | apply Kd.R_drew)); exact Kd.R_mono am.out (fun _ hk => ⟨hk.1.2.2, ⟨hk.2, ⟨hk.1.1, hk.1.2.1⟩⟩⟩)), (by (with_reducible repeat (first | apply Kd.R_alloc | apply Kd.R_drewN | apply Kd.R_drew)); exact Kd.R_mono ax.out (fun _ hk => ⟨hk.1.2.2, ⟨hk.2, ⟨hk.1.1, hk.1.2.1⟩⟩⟩)), (by (with_reducible repeat (first | apply Kd.R_alloc | apply Kd.R_drewN | apply Kd.R_drew)); exact Kd.R_mono aR.out (fun _ hk => ⟨hk.1.2, ⟨hk.2, ⟨hk.1.1.1.2, hk.1.1.2⟩⟩⟩)), (by (with_reducible repeat (first | apply Kd.R_alloc | apply Kd.R_drewN | apply Kd.R_drew)); exact Kd.R_mono av.out (fun _ hk => ⟨hk.1.2.1, ⟨hk.1.2.2, ⟨hk.2, hk.1.1⟩⟩⟩)), (by have X_ := ao.out; exact TR), (by have X_ := ad.out; exact TR), (by (with_reducible repeat (first | apply Kd.R_alloc | apply Kd.R_drewN | apply Kd.R_drew)); exact Kd.R_mono ac.out (fun _ hk => ⟨hk.1.2.1, ⟨hk.1.2.2, ⟨hk.2, hk.1.1⟩⟩⟩)), TK, TK, TK, TK, bn.out, bp.out, aI.out, a1.out, aW.out, a3.out, aP.out, aZ.out, TB⟩)
        ·skip
         refine box_step ?hg (N := 14) ?hd (cs := #[.int .i64 0, .slice none 0 0]) (t := 31) ?hr ?_; (case hd => rfl); (case hg => rfl); (case hr => first | (go_simp; done) | (go_simp; rfl))
         intro ag hg w72 hbox hb
         have a2 := (hb.cell (World.block_lt_of_cell? _ _ (hHeld.2.2.2.2.2.2))).trans (hHeld.2.2.2.2.2.2)
         have n0_ := aM (Kd.R_below (by have X_ := av.out; exact TR) hb)
         have n1_ := aM (Kd.R_below (by have X_ := ao.out; exact TR) hb)
         have n2_ := aM (Kd.R_below (by have X_ := ad.out; exact TR) hb)
         have n3_ := aM (Kd.R_below (by have X_ := ac.out; exact TR) hb)
         have n4_ := aM (Kd.R_below (by have X_ := am.out; exact TR) hb)
         have n5_ := aM (Kd.R_below (by have X_ := ax.out; exact TR) hb)
         have n6_ := aM (blk_below (g := gb840) (o := .cells #[.int .i64 aj, .int .i64 ak, .int .i64 al, .slice Ao15 ah.length co15] 28 (0, 0)) TK hb)
         have n7_ := aM (blk_below (g := gb845) (o := .cells #[.int .i64 ai, .slice Ao61 ab.length co61] 31 (0, 0)) TK hb)
         have n8_ := aM (blk_below (g := af) (o := .cells #[.int .i64 aB, .slice ay ap.length az] 31 (0, 0)) TK hb)
         have n9_ := aM (below_step TB hb)
         have aT := aM (hbox)
         have aU := aM ((by rw [hg]; exact (below_size TB) : w.heap.size ≤ ag))
         have aX := aM ((by rw [hg]; exact (below_size TB) : w.heap.size ≤ ag))
         have a5 := aM ((by rw [hg]; exact Nat.ne_of_lt (blk_lt (g := gb840) (o := .cells #[.int .i64 aj, .int .i64 ak, .int .i64 al, .slice Ao15 ah.length co15] 28 (0, 0)) TK) : gb840 ≠ ag))
         have a7 := aM ((by rw [hg]; exact Nat.ne_of_gt (blk_lt (g := gb840) (o := .cells #[.int .i64 aj, .int .i64 ak, .int .i64 al, .slice Ao15 ah.length co15] 28 (0, 0)) TK) : ag ≠ gb840))
         have be := aM ((by rw [hg]; exact Nat.ne_of_lt (blk_lt (g := gb845) (o := .cells #[.int .i64 ai, .slice Ao61 ab.length co61] 31 (0, 0)) TK) : gb845 ≠ ag))
         have bw := aM ((by rw [hg]; exact Nat.ne_of_gt (blk_lt (g := gb845) (o := .cells #[.int .i64 ai, .slice Ao61 ab.length co61] 31 (0, 0)) TK) : ag ≠ gb845))
         have bt := aM ((by rw [hg]; exact Nat.ne_of_lt (blk_lt (g := af) (o := .cells #[.int .i64 aB, .slice ay ap.length az] 31 (0, 0)) TK) : af ≠ ag))
         have bz := aM ((by rw [hg]; exact Nat.ne_of_gt (blk_lt (g := af) (o := .cells #[.int .i64 aB, .slice ay ap.length az] 31 (0, 0)) TK) : ag ≠ af))
         clear av
         clear ao
         clear ad
         clear ac
         clear am
         clear ax
         clear aa
         clear ae
         clear aq
         clear HB
         have av := n0_
         have ao := n1_
         have ad := n2_
         have ac := n3_
         have am := n4_
         have ax := n5_
         have aa := n6_
         have ae := n7_
         have aq := n8_
         have HB := n9_
         have aG := aT
         have bn := aU
         have bp := aX
         have aI := a5
         have a1 := a7
         have aW := be
         have a3 := bw
         have aP := bt
         have aZ := bz
         clear n0_ n1_ n2_ n3_ n4_ n5_ n6_ n7_ n8_ n9_ aT aU aX a5 a7 be bw bt bz
         clear hb hbox hg
         refine hK.out _ _ ⟨(blk_cell aa.out 0).trans rfl, (blk_cell aa.out 1).trans rfl, (blk_cell aa.out 2).trans rfl, (blk_cell aa.out 3).trans rfl, (blk_cell aq.out 0).trans rfl, (blk_cell aq.out 1).trans rfl, a2⟩ (fun hHeld => ?_)
         clear hK K
         refine nR ?_
         refine pOe 7 (some 92) #[true, true, true, true, true, true, true, true, false, false, false, true, false, false] (fun K hK => ?_)
         refine gG Try.func14 #[.agg #[.int .i64 aj, .int .i64 ak, .int .i64 al, .slice Ao15 ah.length co15], .agg #[.int .i64 aB, .slice ay ap.length az], .int .i64 (rd aF aE), .slice Ao62 aC.length co62] ?_
         with_reducible refine (impl_PutPiece.calls k2 aj ak al _ _ ah aB _ _ ap (rd aF aE) _ _ aC aS aH false _ ?side1 ?side2 ?side3 ?side4 ?side5 ?side6 A50.out).mono ?_
         (case side1 => have X_ := (Kd.R_reads' ad.out).2.2; exact TC)
         (case side2 => exact (Kd.R_reads' ad.out).2.1)
         (case side3 => have X_ := (Kd.R_reads' ax.out).2.2; exact TC)
         (case side4 => exact (Kd.R_reads' ax.out).2.1)
         (case side5 => have X_ := (Kd.R_reads' am.out).2.2; exact TC)
         (case side6 => exact (Kd.R_reads' am.out).2.1)
         rintro e w73 ⟨bc, rfl, ho0, hb⟩
         have a2 := (hb.cell (World.block_lt_of_cell? _ _ (hHeld.2.2.2.2.2.2))).trans (hHeld.2.2.2.2.2.2)
         refine ⟨_, rfl, ?_⟩
         have n0_ := aM (Kd.R_elder' (by have X_ := av.out; exact TR) (Kd.R_base ho0) hb)
         have n1_ := aM (Kd.R_below (by have X_ := ao.out; exact TR) hb)
         have n2_ := aM (Kd.R_below (by have X_ := ad.out; exact TR) hb)
         have n3_ := aM (Kd.R_elder' (by have X_ := ac.out; exact TR) (Kd.R_base ho0) hb)
         have n4_ := aM (Kd.R_elder' (by have X_ := am.out; exact TR) (Kd.R_base ho0) hb)
         have n5_ := aM (Kd.R_elder' (by have X_ := ax.out; exact TR) (Kd.R_base ho0) hb)
         have n6_ := aM (Kd.R_lower (Kd.R_new' (Kd.R_new' (Kd.R_new' (Kd.R_new' ho0 (Kd.R_lt (by have X_ := av.out; exact TR))) (Kd.R_lt (by have X_ := ac.out; exact TR))) (Kd.R_lt (by have X_ := am.out; exact TR))) (Kd.R_lt (by have X_ := ax.out; exact TR))) (below_size TB))
         have n7_ := aM (blk_below (g := gb840) (o := .cells #[.int .i64 aj, .int .i64 ak, .int .i64 al, .slice Ao15 ah.length co15] 28 (0, 0)) TK hb)
         have n8_ := aM (blk_below (g := gb845) (o := .cells #[.int .i64 ai, .slice Ao61 ab.length co61] 31 (0, 0)) TK hb)
         have n9_ := aM (blk_below (g := af) (o := .cells #[.int .i64 aB, .slice ay ap.length az] 31 (0, 0)) TK hb)
         have aT := aM (blk_below (g := ag) (o := .cells #[.int .i64 0, .slice none 0 0] 31 (0, 0)) TK hb)
         have aU := aM (below_step TB hb)
         clear av
         clear ao
         clear ad
         clear ac
         clear am
         clear ax
         clear aa
         clear ae
         clear aq
         clear aG
         clear HB
         have av := n0_
         have ao := n1_
         have ad := n2_
         have ac := n3_
         have am := n4_
         have ax := n5_
         have aR := n6_
         have aa := n7_
         have ae := n8_
         have aq := n9_
         have aG := aT
         have HB := aU
         clear n0_ n1_ n2_ n3_ n4_ n5_ n6_ n7_ n8_ n9_ aT aU
         (try clear hb)
         (try clear hb2)
         (try clear hk)
         (try clear hi)
         (try clear ho0)
         refine hK.out _ _ ⟨(blk_cell aa.out 0).trans rfl, (blk_cell aa.out 1).trans rfl, (blk_cell aa.out 2).trans rfl, (blk_cell aa.out 3).trans rfl, (blk_cell aq.out 0).trans rfl, (blk_cell aq.out 1).trans rfl, a2⟩ (fun hHeld => ?_)
         clear hK K
         refine nR ?_
         refine pPe 8 (some 84) #[true, true, true, true, true, true, true, true, true, false, false, true, false, false] ?_
         refine pPe 9 (some 93) #[true, true, true, true, true, true, true, true, true, true, false, true, false, false] ?_
         refine pPe 10 (some 94) #[true, true, true, true, true, true, true, true, true, true, true, true, false, false] ?_
         exact norm_ (by simp only [putAll, Act.put, List.setIfInBounds_toArray, List.set_cons_zero, List.set_cons_succ]) (hCont (bc, ag) _ ⟨hHeld, (by (with_reducible repeat (first | apply Kd.R_alloc | apply Kd.R_drewN | apply Kd.R_drew)); exact Kd.R_mono am.out (fun _ hk => ⟨hk.1.2.2, ⟨hk.2, ⟨hk.1.1, hk.1.2.1⟩⟩⟩)), (by (with_reducible repeat (first | apply Kd.R_alloc | apply Kd.R_drewN | apply Kd.R_drew)); exact Kd.R_mono ax.out (fun _ hk => ⟨hk.1.2.2, ⟨hk.2, ⟨hk.1.1, hk.1.2.1⟩⟩⟩)), (by (with_reducible repeat (first | apply Kd.R_alloc | apply Kd.R_drewN | apply Kd.R_drew)); exact Kd.R_mono aR.out (fun _ hk => ⟨hk.1.2, ⟨hk.2, ⟨hk.1.1.1.2, hk.1.1.2⟩⟩⟩)), (by (with_reducible repeat (first | apply Kd.R_alloc | apply Kd.R_drewN | apply Kd.R_drew)); exact Kd.R_mono av.out (fun _ hk => ⟨hk.1.2.1, ⟨hk.1.2.2, ⟨hk.2, hk.1.1⟩⟩⟩)), (by have X_ := ao.out; exact TR), (by have X_ := ad.out; exact TR), (by (with_reducible repeat (first | apply Kd.R_alloc | apply Kd.R_drewN | apply Kd.R_drew)); exact Kd.R_mono ac.out (fun _ hk => ⟨hk.1.2.1, ⟨hk.1.2.2, ⟨hk.2, hk.1.1⟩⟩⟩)), TK, TK, TK, TK, bn.out, bp.out, aI.out, a1.out, aW.out, a3.out, aP.out, aZ.out, TB⟩)
       rintro ⟨bc, ag⟩ w74 ⟨hS_, h0_, h1_, h2_, h3_, h4_, h5_, h6_, h7_, h8_, h9_, bx, br, bv, bu, bs, bq, h16_, h17_, h18_, h19_⟩
       clear av ao ad ac am ax aa ae aq HB
       have am : Aside0 (Kd.R (Kd.int .u8) 5 w74 w.heap.size (fun k_ => some k_ ≠ (.slice ay ap.length az : Value).ownBlock ∧ some k_ ≠ (bc : Value).ownBlock ∧ some k_ ≠ (.slice Ao11 aA.length co11 : Value).ownBlock ∧ some k_ ≠ (.slice Ao61 ab.length co61 : Value).ownBlock) (.slice Ao62 aC.length co62) aC) := ⟨h0_⟩
       have ax : Aside0 (Kd.R (Kd.int .u8) 5 w74 w.heap.size (fun k_ => some k_ ≠ (.slice Ao62 aC.length co62 : Value).ownBlock ∧ some k_ ≠ (bc : Value).ownBlock ∧ some k_ ≠ (.slice Ao11 aA.length co11 : Value).ownBlock ∧ some k_ ≠ (.slice Ao61 ab.length co61 : Value).ownBlock) (.slice ay ap.length az) ap) := ⟨h1_⟩
       have aR : Aside0 (Kd.R (Kd.int .u8) 5 w74 w.heap.size (fun k_ => some k_ ≠ (.slice Ao62 aC.length co62 : Value).ownBlock ∧ some k_ ≠ (.slice ay ap.length az : Value).ownBlock ∧ some k_ ≠ (.slice Ao11 aA.length co11 : Value).ownBlock ∧ some k_ ≠ (.slice Ao61 ab.length co61 : Value).ownBlock) bc aH) := ⟨h2_⟩
       have av : Aside0 (Kd.R (Kd.int .u8) 5 w74 w.heap.size (fun k_ => some k_ ≠ (.slice Ao62 aC.length co62 : Value).ownBlock ∧ some k_ ≠ (.slice ay ap.length az : Value).ownBlock ∧ some k_ ≠ (bc : Value).ownBlock ∧ some k_ ≠ (.slice Ao61 ab.length co61 : Value).ownBlock) (.slice Ao11 aA.length co11) aA) := ⟨h3_⟩
       have ao : Aside0 (Kd.R (Kd.int .i64) 3 w74 w.heap.size (fun _ => True) (.slice (some aV) aF.length bj) aF) := ⟨h4_⟩
       have ad : Aside0 (Kd.R k48 48 w74 w.heap.size (fun _ => True) (.slice Ao15 ah.length co15) ah) := ⟨h5_⟩
       have ac : Aside0 (Kd.R (Kd.int .u8) 5 w74 w.heap.size (fun k_ => some k_ ≠ (.slice Ao62 aC.length co62 : Value).ownBlock ∧ some k_ ≠ (.slice ay ap.length az : Value).ownBlock ∧ some k_ ≠ (bc : Value).ownBlock ∧ some k_ ≠ (.slice Ao11 aA.length co11 : Value).ownBlock) (.slice Ao61 ab.length co61) ab) := ⟨h6_⟩
       have aa : Aside0 (w74.heap[gb840]? = some (.cells #[.int .i64 aj, .int .i64 ak, .int .i64 al, .slice Ao15 ah.length co15] 28 (0, 0))) := ⟨h7_⟩
       have ae : Aside0 (w74.heap[gb845]? = some (.cells #[.int .i64 ai, .slice Ao61 ab.length co61] 31 (0, 0))) := ⟨h8_⟩
       have aq : Aside0 (w74.heap[af]? = some (.cells #[.int .i64 aB, .slice ay ap.length az] 31 (0, 0))) := ⟨h9_⟩
       have aG : Aside0 (w74.heap[ag]? = some (.cells #[.int .i64 0, .slice none 0 0] 31 (0, 0))) := ⟨bx⟩
       have bn : Aside0 (w.heap.size ≤ ag) := ⟨br⟩
       have bp : Aside0 (w.heap.size ≤ ag) := ⟨bv⟩
       have aI : Aside0 (gb840 ≠ ag) := ⟨bu⟩
       have a1 : Aside0 (ag ≠ gb840) := ⟨bs⟩
       have aW : Aside0 (gb845 ≠ ag) := ⟨bq⟩
       have a3 : Aside0 (ag ≠ gb845) := ⟨h16_⟩
       have aP : Aside0 (af ≠ ag) := ⟨h17_⟩
       have aZ : Aside0 (ag ≠ af) := ⟨h18_⟩
       have HB : Aside0 (Below w.heap.size w w74) := ⟨h19_⟩
       clear h0_ h1_ h2_ h3_ h4_ h5_ h6_ h7_ h8_ h9_ bx br bv bu bs bq h16_ h17_ h18_ h19_
       have hHeld : w74.cell? ⟨gb840, 0, none⟩ = some (.int .i64 aj) ∧ w74.cell? ⟨gb840, 1, none⟩ = some (.int .i64 ak) ∧ w74.cell? ⟨gb840, 2, none⟩ = some (.int .i64 al) ∧ w74.cell? ⟨gb840, 3, none⟩ = some (.slice Ao15 ah.length co15) ∧ w74.cell? ⟨af, 0, none⟩ = some (.int .i64 aB) ∧ w74.cell? ⟨af, 1, none⟩ = some (.slice ay ap.length az) ∧ w74.cell? (aV.add (aE).toNat) = some (.int .i64 (rd aF aE)) := hS_
       obtain ⟨aN, aL, eo76⟩ := Kd.R_slice aR.out
       (first | subst eo76 | (injection eo76 with f1_ f2_ f3_; have f4_ := f1_.symm; have f5_ := f3_.symm; clear f1_ f2_ f3_; subst f4_; subst f5_))
       refine norm_ (a' := ?_) ?_ ?_
       rotate_left
       ·simp only [putAll, Act.put, List.setIfInBounds_toArray, List.set_cons_zero, List.set_cons_succ]
        rfl
       refine pOe 12 none #[true, true, true, true, true, true, true, true, true, true, true, true, true, false] (fun K hK => ?_)
       have hs75 : w74.cell? ⟨ag, 0, none⟩ = some (.int .i64 0) := (blk_cell aG.out 0).trans rfl
       have hfs75 := blk_frozen aG.out 0
       have hns75_0 := aI.out
       have hns75_1 := aW.out
       have hns75_2 := aP.out
       have hms75_0 := a1.out
       have hms75_1 := a3.out
       have hms75_2 := aZ.out
       have hs77 : w74.cell? ⟨ag, 1, none⟩ = some (.slice none 0 0) := (blk_cell aG.out 1).trans rfl
       have hfs77 := blk_frozen aG.out 1
       have hns77_0 := aI.out
       have hns77_1 := aW.out
       have hns77_2 := aP.out
       have hms77_0 := a1.out
       have hms77_1 := a3.out
       have hms77_2 := aZ.out
       refine skip_ (w1 := ?_) (by rfl) rfl ?_ ?_
       rotate_left
       ·go_simp
        rfl
       refine hK.out _ _ ⟨((cell_far (p := ⟨ag, _, none⟩) aI.out _).trans (((cell_far (p := ⟨ag, _, none⟩) aI.out _).trans (hHeld.1)))), ((cell_far (p := ⟨ag, _, none⟩) aI.out _).trans (((cell_far (p := ⟨ag, _, none⟩) aI.out _).trans (hHeld.2.1)))), ((cell_far (p := ⟨ag, _, none⟩) aI.out _).trans (((cell_far (p := ⟨ag, _, none⟩) aI.out _).trans (hHeld.2.2.1)))), ((cell_far (p := ⟨ag, _, none⟩) aI.out _).trans (((cell_far (p := ⟨ag, _, none⟩) aI.out _).trans (hHeld.2.2.2.1)))), ((cell_far (p := ⟨ag, _, none⟩) aP.out _).trans (((cell_far (p := ⟨ag, _, none⟩) aP.out _).trans (hHeld.2.2.2.2.1)))), ((cell_far (p := ⟨ag, _, none⟩) aP.out _).trans (((cell_far (p := ⟨ag, _, none⟩) aP.out _).trans (hHeld.2.2.2.2.2.1)))), ((cell_far (p := ⟨ag, _, none⟩) (by first | exact Kd.own_blk (Kd.R_ne ao.out aG.out (by decide)) | (rw [add_block]; exact Kd.own_blk (Kd.R_ne ao.out aG.out (by decide))) | (show (Addr.add _ _).block ≠ _; rw [add_block]; exact Kd.own_blk (Kd.R_ne ao.out aG.out (by decide))) | (dsimp only; exact Kd.own_blk (Kd.R_ne ao.out aG.out (by decide)))) _).trans (((cell_far (p := ⟨ag, _, none⟩) (by first | exact Kd.own_blk (Kd.R_ne ao.out aG.out (by decide)) | (rw [add_block]; exact Kd.own_blk (Kd.R_ne ao.out aG.out (by decide))) | (show (Addr.add _ _).block ≠ _; rw [add_block]; exact Kd.own_blk (Kd.R_ne ao.out aG.out (by decide))) | (dsimp only; exact Kd.own_blk (Kd.R_ne ao.out aG.out (by decide)))) _).trans (hHeld.2.2.2.2.2.2))))⟩ (fun hHeld => ?_)
       clear hK K
       refine pPe 13 (some 15) #[true, true, true, true, true, true, true, true, true, true, true, true, true, true] ?_
       refine done_ (done_of HT_.out (by kernel_rfl)) ?_
       try go_wp2
       have n0_ : Aside0 (Kd.R (Kd.int .u8) 5 ((w74.setCell ⟨ag, 0, none⟩ (.int .i64 aS)).setCell ⟨ag, 1, none⟩ (.slice aN aH.length aL)) w.heap.size (fun k_ => some k_ ≠ (.slice Ao61 ab.length co61 : Value).ownBlock ∧ some k_ ≠ (.slice Ao62 aC.length co62 : Value).ownBlock ∧ some k_ ≠ (.slice ay ap.length az : Value).ownBlock ∧ some k_ ≠ (.slice aN aH.length aL : Value).ownBlock) (.slice Ao11 aA.length co11) aA) := ⟨by (with_reducible repeat (first | apply Kd.R_alloc | apply Kd.R_drewN | apply Kd.R_drew)); exact Kd.R_mono (Kd.R_far (p := ⟨ag, 1, none⟩) (Kd.R_far (p := ⟨ag, 0, none⟩) (Kd.R_types av.out aG.out (by decide)) (fun _ hk => hk.2) (.int .i64 aS)) (fun _ hk => hk.2) (.slice aN aH.length aL)) (fun _ hk => ⟨hk.1.2.2.2, ⟨hk.1.1, ⟨hk.1.2.1, hk.1.2.2.1⟩⟩⟩)⟩
       have n1_ : Aside0 (Kd.R (Kd.int .i64) 3 ((w74.setCell ⟨ag, 0, none⟩ (.int .i64 aS)).setCell ⟨ag, 1, none⟩ (.slice aN aH.length aL)) w.heap.size (fun _ => True) (.slice (some aV) aF.length bj) aF) := ⟨by (with_reducible repeat (first | apply Kd.R_alloc | apply Kd.R_drewN | apply Kd.R_drew)); exact Kd.R_mono (Kd.R_far (p := ⟨ag, 1, none⟩) (Kd.R_far (p := ⟨ag, 0, none⟩) (Kd.R_types ao.out aG.out (by decide)) (fun _ hk => hk.2) (.int .i64 aS)) (fun _ hk => hk.2) (.slice aN aH.length aL)) (fun _ hk => trivial)⟩
       have n2_ : Aside0 (Kd.R k48 48 ((w74.setCell ⟨ag, 0, none⟩ (.int .i64 aS)).setCell ⟨ag, 1, none⟩ (.slice aN aH.length aL)) w.heap.size (fun _ => True) (.slice Ao15 ah.length co15) ah) := ⟨by (with_reducible repeat (first | apply Kd.R_alloc | apply Kd.R_drewN | apply Kd.R_drew)); exact Kd.R_mono (Kd.R_far (p := ⟨ag, 1, none⟩) (Kd.R_far (p := ⟨ag, 0, none⟩) (Kd.R_types ad.out aG.out (by decide)) (fun _ hk => hk.2) (.int .i64 aS)) (fun _ hk => hk.2) (.slice aN aH.length aL)) (fun _ hk => trivial)⟩
       have n3_ : Aside0 (Kd.R (Kd.int .u8) 5 ((w74.setCell ⟨ag, 0, none⟩ (.int .i64 aS)).setCell ⟨ag, 1, none⟩ (.slice aN aH.length aL)) w.heap.size (fun k_ => some k_ ≠ (.slice Ao11 aA.length co11 : Value).ownBlock ∧ some k_ ≠ (.slice Ao62 aC.length co62 : Value).ownBlock ∧ some k_ ≠ (.slice ay ap.length az : Value).ownBlock ∧ some k_ ≠ (.slice aN aH.length aL : Value).ownBlock) (.slice Ao61 ab.length co61) ab) := ⟨by (with_reducible repeat (first | apply Kd.R_alloc | apply Kd.R_drewN | apply Kd.R_drew)); exact Kd.R_mono (Kd.R_far (p := ⟨ag, 1, none⟩) (Kd.R_far (p := ⟨ag, 0, none⟩) (Kd.R_types ac.out aG.out (by decide)) (fun _ hk => hk.2) (.int .i64 aS)) (fun _ hk => hk.2) (.slice aN aH.length aL)) (fun _ hk => ⟨hk.1.2.2.2, ⟨hk.1.1, ⟨hk.1.2.1, hk.1.2.2.1⟩⟩⟩)⟩
       have n4_ : Aside0 (Kd.R (Kd.int .u8) 5 ((w74.setCell ⟨ag, 0, none⟩ (.int .i64 aS)).setCell ⟨ag, 1, none⟩ (.slice aN aH.length aL)) w.heap.size (fun k_ => some k_ ≠ (.slice Ao11 aA.length co11 : Value).ownBlock ∧ some k_ ≠ (.slice Ao61 ab.length co61 : Value).ownBlock ∧ some k_ ≠ (.slice ay ap.length az : Value).ownBlock ∧ some k_ ≠ (.slice aN aH.length aL : Value).ownBlock) (.slice Ao62 aC.length co62) aC) := ⟨by (with_reducible repeat (first | apply Kd.R_alloc | apply Kd.R_drewN | apply Kd.R_drew)); exact Kd.R_mono (Kd.R_far (p := ⟨ag, 1, none⟩) (Kd.R_far (p := ⟨ag, 0, none⟩) (Kd.R_types am.out aG.out (by decide)) (fun _ hk => hk.2) (.int .i64 aS)) (fun _ hk => hk.2) (.slice aN aH.length aL)) (fun _ hk => ⟨hk.1.2.2.1, ⟨hk.1.2.2.2, ⟨hk.1.1, hk.1.2.1⟩⟩⟩)⟩
       have n5_ : Aside0 (Kd.R (Kd.int .u8) 5 ((w74.setCell ⟨ag, 0, none⟩ (.int .i64 aS)).setCell ⟨ag, 1, none⟩ (.slice aN aH.length aL)) w.heap.size (fun k_ => some k_ ≠ (.slice Ao11 aA.length co11 : Value).ownBlock ∧ some k_ ≠ (.slice Ao61 ab.length co61 : Value).ownBlock ∧ some k_ ≠ (.slice Ao62 aC.length co62 : Value).ownBlock ∧ some k_ ≠ (.slice aN aH.length aL : Value).ownBlock) (.slice ay ap.length az) ap) := ⟨by (with_reducible repeat (first | apply Kd.R_alloc | apply Kd.R_drewN | apply Kd.R_drew)); exact Kd.R_mono (Kd.R_far (p := ⟨ag, 1, none⟩) (Kd.R_far (p := ⟨ag, 0, none⟩) (Kd.R_types ax.out aG.out (by decide)) (fun _ hk => hk.2) (.int .i64 aS)) (fun _ hk => hk.2) (.slice aN aH.length aL)) (fun _ hk => ⟨hk.1.2.2.1, ⟨hk.1.2.2.2, ⟨hk.1.1, hk.1.2.1⟩⟩⟩)⟩
       have n6_ : Aside0 (Kd.R (Kd.int .u8) 5 ((w74.setCell ⟨ag, 0, none⟩ (.int .i64 aS)).setCell ⟨ag, 1, none⟩ (.slice aN aH.length aL)) w.heap.size (fun k_ => some k_ ≠ (.slice Ao11 aA.length co11 : Value).ownBlock ∧ some k_ ≠ (.slice Ao61 ab.length co61 : Value).ownBlock ∧ some k_ ≠ (.slice Ao62 aC.length co62 : Value).ownBlock ∧ some k_ ≠ (.slice ay ap.length az : Value).ownBlock) (.slice aN aH.length aL) aH) := ⟨by (with_reducible repeat (first | apply Kd.R_alloc | apply Kd.R_drewN | apply Kd.R_drew)); exact Kd.R_mono (Kd.R_far (p := ⟨ag, 1, none⟩) (Kd.R_far (p := ⟨ag, 0, none⟩) (Kd.R_types aR.out aG.out (by decide)) (fun _ hk => hk.2) (.int .i64 aS)) (fun _ hk => hk.2) (.slice aN aH.length aL)) (fun _ hk => ⟨hk.1.2.2.1, ⟨hk.1.2.2.2, ⟨hk.1.1, hk.1.2.1⟩⟩⟩)⟩
       have n7_ : Aside0 (((w74.setCell ⟨ag, 0, none⟩ (.int .i64 aS)).setCell ⟨ag, 1, none⟩ (.slice aN aH.length aL)).heap[gb840]? = some (.cells #[.int .i64 aj, .int .i64 ak, .int .i64 al, .slice Ao15 ah.length co15] 28 (0, 0))) := ⟨by (with_reducible repeat (first | refine blk_drewN ?_ _ | refine blk_drew ?_ | refine blk_alloc ?_ _)); refine blk_far ?_ aI.out _; (with_reducible repeat (first | refine blk_drewN ?_ _ | refine blk_drew ?_ | refine blk_alloc ?_ _)); refine blk_far ?_ aI.out _; (with_reducible repeat (first | refine blk_drewN ?_ _ | refine blk_drew ?_ | refine blk_alloc ?_ _)); exact aa.out⟩
       have n8_ : Aside0 (((w74.setCell ⟨ag, 0, none⟩ (.int .i64 aS)).setCell ⟨ag, 1, none⟩ (.slice aN aH.length aL)).heap[gb845]? = some (.cells #[.int .i64 ai, .slice Ao61 ab.length co61] 31 (0, 0))) := ⟨by (with_reducible repeat (first | refine blk_drewN ?_ _ | refine blk_drew ?_ | refine blk_alloc ?_ _)); refine blk_far ?_ aW.out _; (with_reducible repeat (first | refine blk_drewN ?_ _ | refine blk_drew ?_ | refine blk_alloc ?_ _)); refine blk_far ?_ aW.out _; (with_reducible repeat (first | refine blk_drewN ?_ _ | refine blk_drew ?_ | refine blk_alloc ?_ _)); exact ae.out⟩
       have n9_ : Aside0 (((w74.setCell ⟨ag, 0, none⟩ (.int .i64 aS)).setCell ⟨ag, 1, none⟩ (.slice aN aH.length aL)).heap[af]? = some (.cells #[.int .i64 aB, .slice ay ap.length az] 31 (0, 0))) := ⟨by (with_reducible repeat (first | refine blk_drewN ?_ _ | refine blk_drew ?_ | refine blk_alloc ?_ _)); refine blk_far ?_ aP.out _; (with_reducible repeat (first | refine blk_drewN ?_ _ | refine blk_drew ?_ | refine blk_alloc ?_ _)); refine blk_far ?_ aP.out _; (with_reducible repeat (first | refine blk_drewN ?_ _ | refine blk_drew ?_ | refine blk_alloc ?_ _)); exact aq.out⟩
       have aT : Aside0 (((w74.setCell ⟨ag, 0, none⟩ (.int .i64 aS)).setCell ⟨ag, 1, none⟩ (.slice aN aH.length aL)).heap[ag]? = some (.cells #[.int .i64 aS, .slice aN aH.length aL] 31 (0, 0))) := ⟨by (with_reducible repeat (first | refine blk_drewN ?_ _ | refine blk_drew ?_ | refine blk_alloc ?_ _)); refine blk_put (cs := #[.int .i64 aS, .slice none 0 0]) ?_ 1 _ rfl; (with_reducible repeat (first | refine blk_drewN ?_ _ | refine blk_drew ?_ | refine blk_alloc ?_ _)); refine blk_put (cs := #[.int .i64 0, .slice none 0 0]) ?_ 0 _ rfl; (with_reducible repeat (first | refine blk_drewN ?_ _ | refine blk_drew ?_ | refine blk_alloc ?_ _)); exact aG.out⟩
       have aU : Aside0 (Below w.heap.size w ((w74.setCell ⟨ag, 0, none⟩ (.int .i64 aS)).setCell ⟨ag, 1, none⟩ (.slice aN aH.length aL))) := ⟨TB⟩
       (try clear av)
       (try clear ao)
       (try clear ad)
       (try clear ac)
       (try clear am)
       (try clear ax)
       (try clear aR)
       (try clear aa)
       (try clear ae)
       (try clear aq)
       (try clear aG)
       (try clear HB)
       generalize ((w74.setCell ⟨ag, 0, none⟩ (.int .i64 aS)).setCell ⟨ag, 1, none⟩ (.slice aN aH.length aL)) = w78 at n0_ n1_ n2_ n3_ n4_ n5_ n6_ n7_ n8_ n9_ aT aU ⊢
       have av := n0_
       have ao := n1_
       have ad := n2_
       have ac := n3_
       have am := n4_
       have ax := n5_
       have aR := n6_
       have aa := n7_
       have ae := n8_
       have aq := n9_
       have aG := aT
       have HB := aU
       clear n0_ n1_ n2_ n3_ n4_ n5_ n6_ n7_ n8_ n9_ aT aU
       replace av := aM (Kd.R_drew av.out)
       replace ao := aM (Kd.R_drew ao.out)
       replace ad := aM (Kd.R_drew ad.out)
       replace ac := aM (Kd.R_drew ac.out)
       replace am := aM (Kd.R_drew am.out)
       replace ax := aM (Kd.R_drew ax.out)
       replace aR := aM (Kd.R_drew aR.out)
       replace aa := aM (blk_drew aa.out)
       replace ae := aM (blk_drew ae.out)
       replace aq := aM (blk_drew aq.out)
       replace aG := aM (blk_drew aG.out)
       replace HB := aM (below_drew1 HB.out)
       have bQ : 0 ≤ (aE : Int) := DT
       have bM : aE < (aF.length : Int) := DT
       obtain ⟨ad880, e880, bA⟩ := Kd.at_int (Kd.R_reads' ao.out).2.2 aE bQ bM
       obtain rfl : aV = ad880 := (by injection e880)
       replace bQ := eq_true bQ
       replace bM := eq_true bM
       refine start_ (n := 12) (S := fun w' => w'.cell? ⟨gb840, 0, none⟩ = some (.int .i64 aj) ∧ w'.cell? ⟨gb840, 1, none⟩ = some (.int .i64 ak) ∧ w'.cell? ⟨gb840, 2, none⟩ = some (.int .i64 al) ∧ w'.cell? ⟨gb840, 3, none⟩ = some (.slice Ao15 ah.length co15) ∧ w'.cell? ⟨af, 0, none⟩ = some (.int .i64 aB) ∧ w'.cell? ⟨af, 1, none⟩ = some (.slice ay ap.length az) ∧ w'.cell? (aV.add (aE).toNat) = some (.int .i64 (rd aF aE))) (ds := []) #[false, false, false, false, false, false, false, false, false, false, false, false] (by kernel_rfl) rfl rfl ⟨(blk_cell aa.out 0).trans rfl, (blk_cell aa.out 1).trans rfl, (blk_cell aa.out 2).trans rfl, (blk_cell aa.out 3).trans rfl, (blk_cell aq.out 0).trans rfl, (blk_cell aq.out 1).trans rfl, bA⟩ (fun hHeld => ?_); refine with_tabW laws_FnBuilds.tab15 laws_FnBuilds.bits15 (fun HT_ HW_ => ?_)
       generalize w78.drew = w79 at av ao ad ac am ax aR aa ae aq aG HB am ax aR bA hHeld ⊢
       refine pPe 2 (some 98) #[false, false, true, false, false, false, false, false, false, false, false, false] ?_
       refine pPe 3 (some 99) #[false, false, true, true, false, false, false, false, false, false, false, false] ?_
       refine pPe 4 (some 100) #[false, false, true, true, true, false, false, false, false, false, false, false] ?_
       refine pTe 0 (some 96) #[true, false, true, true, true, false, false, false, false, false, false, false] ?_
       refine pTe 1 (some 97) #[true, true, true, true, true, false, false, false, false, false, false, false] ?_
       refine pTe 5 (some 101) #[true, true, true, true, true, true, false, false, false, false, false, false] ?_
       refine pOe 6 (some 102) #[true, true, true, true, true, true, true, false, false, false, false, false] (fun K hK => ?_)
       refine gG Try.func44 #[.agg #[.int .i64 aj, .int .i64 ak, .int .i64 al, .slice Ao15 ah.length co15], .agg #[.int .i64 aB, .slice ay ap.length az], .int .i64 (rd aF aE)] ?_
       with_reducible refine (impl_PieceAt.calls k2 aj ak al _ _ ah aB _ _ ap (rd aF aE) ba true _ ?side1 ?side2 ?side3 ?side4 A51.out).mono ?_
       (case side1 => have X_ := (Kd.R_reads' ad.out).2.2; exact TC)
       (case side2 => exact (Kd.R_reads' ad.out).2.1)
       (case side3 => have X_ := (Kd.R_reads' ax.out).2.2; exact TC)
       (case side4 => exact (Kd.R_reads' ax.out).2.1)
       rintro e w80 ⟨v882, rfl, ho0, hb⟩
       have a2 := (hb.cell (World.block_lt_of_cell? _ _ (hHeld.2.2.2.2.2.2))).trans (hHeld.2.2.2.2.2.2)
       refine ⟨_, rfl, ?_⟩
       have n0_ := aM (Kd.R_elder' (by have X_ := av.out; exact TR) (Kd.R_base ho0) hb)
       have n1_ := aM (Kd.R_below (by have X_ := ao.out; exact TR) hb)
       have n2_ := aM (Kd.R_below (by have X_ := ad.out; exact TR) hb)
       have n3_ := aM (Kd.R_elder' (by have X_ := ac.out; exact TR) (Kd.R_base ho0) hb)
       have n4_ := aM (Kd.R_elder' (by have X_ := am.out; exact TR) (Kd.R_base ho0) hb)
       have n5_ := aM (Kd.R_elder' (by have X_ := ax.out; exact TR) (Kd.R_base ho0) hb)
       have n6_ := aM (Kd.R_elder' (by have X_ := aR.out; exact TR) (Kd.R_base ho0) hb)
       have n7_ := aM (Kd.R_lower (Kd.R_new' (Kd.R_new' (Kd.R_new' (Kd.R_new' (Kd.R_new' ho0 (Kd.R_lt (by have X_ := av.out; exact TR))) (Kd.R_lt (by have X_ := ac.out; exact TR))) (Kd.R_lt (by have X_ := am.out; exact TR))) (Kd.R_lt (by have X_ := ax.out; exact TR))) (Kd.R_lt (by have X_ := aR.out; exact TR))) (below_size TB))
       have n8_ := aM (blk_below (g := gb840) (o := .cells #[.int .i64 aj, .int .i64 ak, .int .i64 al, .slice Ao15 ah.length co15] 28 (0, 0)) TK hb)
       have n9_ := aM (blk_below (g := gb845) (o := .cells #[.int .i64 ai, .slice Ao61 ab.length co61] 31 (0, 0)) TK hb)
       have aT := aM (blk_below (g := af) (o := .cells #[.int .i64 aB, .slice ay ap.length az] 31 (0, 0)) TK hb)
       have aU := aM (blk_below (g := ag) (o := .cells #[.int .i64 aS, .slice aN aH.length aL] 31 (0, 0)) TK hb)
       have aX := aM (below_step TB hb)
       clear av
       clear ao
       clear ad
       clear ac
       clear am
       clear ax
       clear aR
       clear aa
       clear ae
       clear aq
       clear aG
       clear HB
       have av := n0_
       have ao := n1_
       have ad := n2_
       have ac := n3_
       have am := n4_
       have ax := n5_
       have aR := n6_
       have a8 := n7_
       have aa := n8_
       have ae := n9_
       have aq := aT
       have aG := aU
       have HB := aX
       clear n0_ n1_ n2_ n3_ n4_ n5_ n6_ n7_ n8_ n9_ aT aU aX
       (try clear hb)
       (try clear hb2)
       (try clear hk)
       (try clear hi)
       (try clear ho0)
       refine hK.out _ _ ⟨(blk_cell aa.out 0).trans rfl, (blk_cell aa.out 1).trans rfl, (blk_cell aa.out 2).trans rfl, (blk_cell aa.out 3).trans rfl, (blk_cell aq.out 0).trans rfl, (blk_cell aq.out 1).trans rfl, a2⟩ (fun hHeld => ?_)
       clear hK K
       refine nR ?_
       refine pPe 7 (some 95) #[true, true, true, true, true, true, true, true, false, false, false, false] ?_
       refine pPe 8 (some 103) #[true, true, true, true, true, true, true, true, true, false, false, false] ?_
       refine pPe 9 (some 104) #[true, true, true, true, true, true, true, true, true, true, false, false] ?_
       refine pPe 10 (some 16) #[true, true, true, true, true, true, true, true, true, true, true, false] ?_
       refine pPe 11 (some 17) #[true, true, true, true, true, true, true, true, true, true, true, true] ?_
       refine done_ (done_of HT_.out (by kernel_rfl)) ?_
       obtain ⟨bl, bk, eo81⟩ := Kd.R_slice a8.out
       subst eo81
       try go_wp2_with (first | (go_at_call 17; (with_reducible refine (laws_same.calls k2 _ _ ba _ _ aC true _ ?side1 ?side2 ?side3 ?side4 A55.out).mono ?_); (case side1 => have X_ := (Kd.R_reads' a8.out).2.2; exact TC); (case side2 => exact (Kd.R_reads' a8.out).2.1); (case side3 => have X_ := (Kd.R_reads' am.out).2.2; exact TC); (case side4 => exact (Kd.R_reads' am.out).2.1); rintro e w' ⟨rfl, ⟨nd, rfl⟩⟩; (try (rw [drewN_self w80]; generalize hq_ : World.drewN w80 _ = w80; have n0_ : Aside0 (Kd.R (Kd.int .u8) 5 w80 w.heap.size (fun k_ => ((some k_ ≠ (.slice Ao11 aA.length co11 : Value).ownBlock ∧ (some k_ ≠ (.slice Ao61 ab.length co61 : Value).ownBlock ∧ (some k_ ≠ (.slice ay ap.length az : Value).ownBlock ∧ some k_ ≠ (.slice aN aH.length aL : Value).ownBlock))) ∧ some k_ ≠ (.slice bl ba.length bk : Value).ownBlock)) (.slice Ao62 aC.length co62) aC) := ⟨by rw [← hq_]; exact (by have X_ := am.out; exact TR)⟩; have n1_ : Aside0 (Kd.R (Kd.int .u8) 5 w80 w.heap.size (fun k_ => ((some k_ ≠ (.slice Ao11 aA.length co11 : Value).ownBlock ∧ (some k_ ≠ (.slice Ao61 ab.length co61 : Value).ownBlock ∧ (some k_ ≠ (.slice Ao62 aC.length co62 : Value).ownBlock ∧ some k_ ≠ (.slice aN aH.length aL : Value).ownBlock))) ∧ some k_ ≠ (.slice bl ba.length bk : Value).ownBlock)) (.slice ay ap.length az) ap) := ⟨by rw [← hq_]; exact (by have X_ := ax.out; exact TR)⟩; have n2_ : Aside0 (Kd.R (Kd.int .u8) 5 w80 w.heap.size (fun k_ => ((some k_ ≠ (.slice Ao11 aA.length co11 : Value).ownBlock ∧ (some k_ ≠ (.slice Ao61 ab.length co61 : Value).ownBlock ∧ (some k_ ≠ (.slice Ao62 aC.length co62 : Value).ownBlock ∧ some k_ ≠ (.slice ay ap.length az : Value).ownBlock))) ∧ some k_ ≠ (.slice bl ba.length bk : Value).ownBlock)) (.slice aN aH.length aL) aH) := ⟨by rw [← hq_]; exact (by have X_ := aR.out; exact TR)⟩; have n3_ : Aside0 (Kd.R (Kd.int .u8) 5 w80 w.heap.size (fun k_ => (((((True ∧ some k_ ≠ (.slice Ao11 aA.length co11 : Value).ownBlock) ∧ some k_ ≠ (.slice Ao61 ab.length co61 : Value).ownBlock) ∧ some k_ ≠ (.slice Ao62 aC.length co62 : Value).ownBlock) ∧ some k_ ≠ (.slice ay ap.length az : Value).ownBlock) ∧ some k_ ≠ (.slice aN aH.length aL : Value).ownBlock)) (.slice bl ba.length bk) ba) := ⟨by rw [← hq_]; exact (by have X_ := a8.out; exact TR)⟩; have n4_ : Aside0 (Kd.R (Kd.int .u8) 5 w80 w.heap.size (fun k_ => ((some k_ ≠ (.slice Ao61 ab.length co61 : Value).ownBlock ∧ (some k_ ≠ (.slice Ao62 aC.length co62 : Value).ownBlock ∧ (some k_ ≠ (.slice ay ap.length az : Value).ownBlock ∧ some k_ ≠ (.slice aN aH.length aL : Value).ownBlock))) ∧ some k_ ≠ (.slice bl ba.length bk : Value).ownBlock)) (.slice Ao11 aA.length co11) aA) := ⟨by rw [← hq_]; exact (by have X_ := av.out; exact TR)⟩; have n5_ : Aside0 (Kd.R (Kd.int .i64) 3 w80 w.heap.size (fun _ => True) (.slice (some aV) aF.length bj) aF) := ⟨by rw [← hq_]; exact (by have X_ := ao.out; exact TR)⟩; have n6_ : Aside0 (Kd.R k48 48 w80 w.heap.size (fun _ => True) (.slice Ao15 ah.length co15) ah) := ⟨by rw [← hq_]; exact (by have X_ := ad.out; exact TR)⟩; have n7_ : Aside0 (Kd.R (Kd.int .u8) 5 w80 w.heap.size (fun k_ => ((some k_ ≠ (.slice Ao11 aA.length co11 : Value).ownBlock ∧ (some k_ ≠ (.slice Ao62 aC.length co62 : Value).ownBlock ∧ (some k_ ≠ (.slice ay ap.length az : Value).ownBlock ∧ some k_ ≠ (.slice aN aH.length aL : Value).ownBlock))) ∧ some k_ ≠ (.slice bl ba.length bk : Value).ownBlock)) (.slice Ao61 ab.length co61) ab) := ⟨by rw [← hq_]; exact (by have X_ := ac.out; exact TR)⟩; have n8_ : Aside0 (w80.heap[gb840]? = some (.cells #[.int .i64 aj, .int .i64 ak, .int .i64 al, .slice Ao15 ah.length co15] 28 (0, 0))) := ⟨by rw [← hq_]; exact TK⟩; have n9_ : Aside0 (w80.heap[gb845]? = some (.cells #[.int .i64 ai, .slice Ao61 ab.length co61] 31 (0, 0))) := ⟨by rw [← hq_]; exact TK⟩; have aT : Aside0 (w80.heap[af]? = some (.cells #[.int .i64 aB, .slice ay ap.length az] 31 (0, 0))) := ⟨by rw [← hq_]; exact TK⟩; have aU : Aside0 (w80.heap[ag]? = some (.cells #[.int .i64 aS, .slice aN aH.length aL] 31 (0, 0))) := ⟨by rw [← hq_]; exact TK⟩; have aX : Aside0 (Below w.heap.size w w80) := ⟨by rw [← hq_]; exact TB⟩; clear am ax aR a8 av ao ad ac aa ae aq aG HB hq_; have am := n0_; have ax := n1_; have aR := n2_; have a8 := n3_; have av := n4_; have ao := n5_; have ad := n6_; have ac := n7_; have aa := n8_; have ae := n9_; have aq := aT; have aG := aU; have HB := aX; clear n0_ n1_ n2_ n3_ n4_ n5_ n6_ n7_ n8_ n9_ aT aU aX)); have hnb82 := NB840_845.out; have hnc82 := NB845_840.out; have hnb83 := aJ.out; have hnc83 := aY.out; have hnb84 := aI.out; have hnc84 := a1.out; obtain ⟨hcz85_0, hcz85_1, hcz85_2, hcz85_3⟩ := cz4 aa.out; obtain ⟨hfz85_0, hfz85_1, hfz85_2, hfz85_3⟩ := fz4 aa.out; have hnb86 := aQ.out; have hnc86 := a4.out; have hnb87 := aW.out; have hnc87 := a3.out; obtain ⟨hcz88_0, hcz88_1⟩ := cz2 ae.out; obtain ⟨hfz88_0, hfz88_1⟩ := fz2 ae.out) | (go_at_call 16; (with_reducible refine (impl_Whole.calls k2 aj ak al _ _ ah ai _ _ ab false _ ?side1 ?side2 ?side3 ?side4 A57.out).mono ?_); (case side1 => have X_ := (Kd.R_reads' ad.out).2.2; exact TC); (case side2 => exact (Kd.R_reads' ad.out).2.1); (case side3 => have X_ := (Kd.R_reads' ac.out).2.2; exact TC); (case side4 => exact (Kd.R_reads' ac.out).2.1); rintro e w89 ⟨rfl, hb⟩; replace av := aM (Kd.R_below (by have X_ := av.out; exact TR) hb); replace ao := aM (Kd.R_below (by have X_ := ao.out; exact TR) hb); replace ad := aM (Kd.R_below (by have X_ := ad.out; exact TR) hb); replace ac := aM (Kd.R_below (by have X_ := ac.out; exact TR) hb); replace am := aM (Kd.R_below (by have X_ := am.out; exact TR) hb); replace ax := aM (Kd.R_below (by have X_ := ax.out; exact TR) hb); replace aR := aM (Kd.R_below (by have X_ := aR.out; exact TR) hb); replace a8 := aM (Kd.R_below (by have X_ := a8.out; exact TR) hb); replace aa := aM (blk_below (g := gb840) (o := .cells #[.int .i64 aj, .int .i64 ak, .int .i64 al, .slice Ao15 ah.length co15] 28 (0, 0)) TK hb); replace ae := aM (blk_below (g := gb845) (o := .cells #[.int .i64 ai, .slice Ao61 ab.length co61] 31 (0, 0)) TK hb); replace aq := aM (blk_below (g := af) (o := .cells #[.int .i64 aB, .slice ay ap.length az] 31 (0, 0)) TK hb); replace aG := aM (blk_below (g := ag) (o := .cells #[.int .i64 aS, .slice aN aH.length aL] 31 (0, 0)) TK hb); replace HB := aM (below_step TB hb); clear hb; have hnb90 := aP.out; have hnc90 := aZ.out; obtain ⟨hcz91_0, hcz91_1⟩ := cz2 aq.out; obtain ⟨hfz91_0, hfz91_1⟩ := fz2 aq.out; obtain ⟨hcz92_0, hcz92_1⟩ := cz2 ae.out; obtain ⟨hfz92_0, hfz92_1⟩ := fz2 ae.out))
       go_roundg k2
       case measure => have := HJ8.out; have := HK2.out; omega
       case rel => exact ⟨(wrap64 (aE + 1)), (aB), (ap), (.slice ay ap.length az), (by first | rfl | (simp; done) | (simp [*]; done)), H', ⟨by have := HJ8.out; have := HK2.out; omega⟩, ⟨by (with_reducible repeat (first | apply Kd.R_alloc | apply Kd.R_drewN | apply Kd.R_drew)); exact Kd.R_mono (Kd.R_far (p := ⟨gb845, 1, none⟩) (Kd.R_far (p := ⟨gb845, 0, none⟩) (Kd.R_types av.out ae.out (by decide)) (fun _ hk => hk.2) (.int .i64 aB)) (fun _ hk => hk.2) (.slice ay ap.length az)) (fun _ hk => hk.1.1.2.2.1)⟩, ⟨by (with_reducible repeat (first | apply Kd.R_alloc | apply Kd.R_drewN | apply Kd.R_drew)); exact Kd.R_mono (Kd.R_far (p := ⟨gb845, 1, none⟩) (Kd.R_far (p := ⟨gb845, 0, none⟩) (Kd.R_types ao.out ae.out (by decide)) (fun _ hk => hk.2) (.int .i64 aB)) (fun _ hk => hk.2) (.slice ay ap.length az)) (fun _ hk => trivial)⟩, ⟨by (with_reducible repeat (first | apply Kd.R_alloc | apply Kd.R_drewN | apply Kd.R_drew)); exact Kd.R_mono (Kd.R_far (p := ⟨gb845, 1, none⟩) (Kd.R_far (p := ⟨gb845, 0, none⟩) (Kd.R_types ad.out ae.out (by decide)) (fun _ hk => hk.2) (.int .i64 aB)) (fun _ hk => hk.2) (.slice ay ap.length az)) (fun _ hk => trivial)⟩, ⟨by (with_reducible repeat (first | apply Kd.R_alloc | apply Kd.R_drewN | apply Kd.R_drew)); exact Kd.R_mono (Kd.R_far (p := ⟨gb845, 1, none⟩) (Kd.R_far (p := ⟨gb845, 0, none⟩) (Kd.R_types ax.out ae.out (by decide)) (fun _ hk => hk.2) (.int .i64 aB)) (fun _ hk => hk.2) (.slice ay ap.length az)) (fun _ hk => hk.1.1.1)⟩, ⟨by (with_reducible repeat (first | refine blk_drewN ?_ _ | refine blk_drew ?_ | refine blk_alloc ?_ _)); refine blk_far ?_ NB840_845.out _; (with_reducible repeat (first | refine blk_drewN ?_ _ | refine blk_drew ?_ | refine blk_alloc ?_ _)); refine blk_far ?_ NB840_845.out _; (with_reducible repeat (first | refine blk_drewN ?_ _ | refine blk_drew ?_ | refine blk_alloc ?_ _)); exact aa.out⟩, ⟨by (with_reducible repeat (first | refine blk_drewN ?_ _ | refine blk_drew ?_ | refine blk_alloc ?_ _)); refine blk_put (cs := #[.int .i64 aB, .slice Ao61 ab.length co61]) ?_ 1 _ rfl; (with_reducible repeat (first | refine blk_drewN ?_ _ | refine blk_drew ?_ | refine blk_alloc ?_ _)); refine blk_put (cs := #[.int .i64 ai, .slice Ao61 ab.length co61]) ?_ 0 _ rfl; (with_reducible repeat (first | refine blk_drewN ?_ _ | refine blk_drew ?_ | refine blk_alloc ?_ _)); exact ae.out⟩, ⟨TB⟩⟩
      ·rw [if_neg c46] at H
       have c46b0 : decide (aE < (aF.length : Int)) = false := decide_eq_false c46
       clear c46
       replace H := bE H
       obtain ⟨t858, A93, H⟩ := H
       replace H := ifN H
       obtain ⟨c94, H⟩ := H
       subst c94
       replace H := bE H
       obtain ⟨t859, A95, H⟩ := H
       replace H := ifN H
       obtain ⟨c96, H⟩ := H
       subst c96
       replace H := bE H
       obtain ⟨t860, A97, H⟩ := H
       obtain rfl := Option.some.inj H
       obtain ⟨Ao98, co98, eo98⟩ := Kd.R_slice ao.out
       subst eo98
       have hnb99 := NB840_845.out
       have hnc99 := NB845_840.out
       obtain ⟨hcz100_0, hcz100_1, hcz100_2, hcz100_3⟩ := cz4 aa.out
       obtain ⟨hfz100_0, hfz100_1, hfz100_2, hfz100_3⟩ := fz4 aa.out
       obtain ⟨hcz101_0, hcz101_1⟩ := cz2 ae.out
       obtain ⟨hfz101_0, hfz101_1⟩ := fz2 ae.out
       obtain ⟨bF, bH, eo102⟩ := Kd.R_slice ac.out
       subst eo102
       go_wp2_with (first | ((with_reducible refine gate_callee (f := 16) rfl ?_); refine gL (some 128) Try.func16 #[.agg #[.int .i64 aj, .int .i64 ak, .int .i64 al, .slice Ao15 ah.length co15], .agg #[.int .i64 ai, .slice bF ab.length bH]] ?_; (with_reducible refine (impl_Whole.calls k2 aj ak al _ _ ah ai _ _ ab true _ ?side1 ?side2 ?side3 ?side4 A93.out).mono ?_); (case side1 => have X_ := (Kd.R_reads' ad.out).2.2; exact TC); (case side2 => exact (Kd.R_reads' ad.out).2.1); (case side3 => have X_ := (Kd.R_reads' ac.out).2.2; exact TC); (case side4 => exact (Kd.R_reads' ac.out).2.1); rintro e w103 ⟨rfl, hb⟩; refine ⟨_, rfl, ?_⟩; replace av := aM (Kd.R_below (by have X_ := av.out; exact TR) hb); replace ao := aM (Kd.R_below (by have X_ := ao.out; exact TR) hb); replace ad := aM (Kd.R_below (by have X_ := ad.out; exact TR) hb); replace ac := aM (Kd.R_below (by have X_ := ac.out; exact TR) hb); replace aa := aM (blk_below (g := gb840) (o := .cells #[.int .i64 aj, .int .i64 ak, .int .i64 al, .slice Ao15 ah.length co15] 28 (0, 0)) TK hb); replace ae := aM (blk_below (g := gb845) (o := .cells #[.int .i64 ai, .slice bF ab.length bH] 31 (0, 0)) TK hb); replace HB := aM (below_step TB hb); clear hb; obtain ⟨hcz104_0, hcz104_1⟩ := cz2 ae.out; obtain ⟨hfz104_0, hfz104_1⟩ := fz2 ae.out) | (go_at_call 17; (with_reducible refine (laws_same.calls k2 _ _ ab _ _ aA true _ ?side1 ?side2 ?side3 ?side4 A95.out).mono ?_); (case side1 => have X_ := (Kd.R_reads' ac.out).2.2; exact TC); (case side2 => exact (Kd.R_reads' ac.out).2.1); (case side3 => have X_ := (Kd.R_reads' av.out).2.2; exact TC); (case side4 => exact (Kd.R_reads' av.out).2.1); rintro e w' ⟨rfl, ⟨nd, rfl⟩⟩; obtain ⟨hcz105_0, hcz105_1, hcz105_2, hcz105_3⟩ := cz4 aa.out; obtain ⟨hfz105_0, hfz105_1, hfz105_2, hfz105_3⟩ := fz4 aa.out) | (go_at_call 41; (with_reducible refine (impl_Missing.calls aj ak al _ _ ah ai _ _ ab t860 _ ?side1 ?side2 ?side3 ?side4 A97.out).mono ?_); (case side1 => have X_ := (Kd.R_reads' ad.out).2.2; exact TC); (case side2 => exact (Kd.R_reads' ad.out).2.1); (case side3 => have X_ := (Kd.R_reads' ac.out).2.2; exact TC); (case side4 => exact (Kd.R_reads' ac.out).2.1); rintro e w106 ⟨rfl, hb⟩; replace av := aM (Kd.R_below (by have X_ := av.out; exact TR) hb); replace ao := aM (Kd.R_below (by have X_ := ao.out; exact TR) hb); replace ad := aM (Kd.R_below (by have X_ := ad.out; exact TR) hb); replace ac := aM (Kd.R_below (by have X_ := ac.out; exact TR) hb); replace aa := aM (blk_below (g := gb840) (o := .cells #[.int .i64 aj, .int .i64 ak, .int .i64 al, .slice Ao15 ah.length co15] 28 (0, 0)) TK hb); replace ae := aM (blk_below (g := gb845) (o := .cells #[.int .i64 ai, .slice bF ab.length bH] 31 (0, 0)) TK hb); replace HB := aM (below_step TB hb); clear hb))
       go_ret
       exact ⟨by first | rfl | (simp [errW_none, errW_some] <;> rfl) | (simp [*, errW_none, errW_some] <;> rfl), TB⟩

end Go.Proofs.Ytfkndpjbkndhcaa.Q
