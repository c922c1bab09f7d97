/- Functions of the program as plain Lean functions, and that a call of each comes to what its function tells. Written by a program of this seat. -/
import Derived.Test.YtmaeahbiiiifmaaQ0
import Derived.Test.YtmaeahbiiiifmaaQ1
import Derived.Test.YtmaeahbiiiifmaaQ2
import Derived.Test.YtmaeahbiiiifmaaQ5
import Derived.Test.YtmaeahbiiiifmaaQ6
import Derived.Test.YtmaeahbiiiifmaaQ7
import Derived.Test.YtmaeahbiiiifmaaQ8
import Derived.Test.YtmaeahbiiiifmaaQ9
namespace Go.Proofs.Ytmaeahbiiiifmaa.Q
open Go.RowKit Go.Proofs.YtmaeahbiiiifmaaW.PrintWords Go.Proofs.YtmaeahbiiiifmaaW.PrintLast Go.Proofs.YtmaeahbiiiifmaaW.PrintMore
attribute [local go_sem] max2_int min2_int max_two min_two max_three min_three max_four min_four   -- for this text's walks alone
set_option linter.unusedVariables false
set_option linter.unusedSimpArgs false

/-! ### laws_FnTrees: function 3 -/
mutual
def laws_FnTrees.j0 : Nat → Bool → List Int → Option (Bool)
  | 0, _, _ => none
  | k + 1, x89, x300000 => if x89 = true then (none) else (laws_FnTrees.l0 k 0 x300000)
def laws_FnTrees.l0 : Nat → Int → List Int → Option (Bool)
  | 0, _, _ => none
  | k + 1, x10, x300000 => if x10 < (x300000.length : Int) then ((impl_PathUp.f k x300000 x10).bind fun t346 => (if 0 ≤ (wrap64 ((t346.length : Int) - 1)) then (if (wrap64 ((t346.length : Int) - 1)) < (t346.length : Int) then (if (rd t346 (wrap64 ((t346.length : Int) - 1))) = 0 then ((impl_DeepOf.f k x300000 x10).bind fun t350 => (if (t346.length : Int) = (wrap64 (t350 + 1)) then (if x10 > 0 then (if 0 ≤ x10 then ((impl_KidsOf.f k x300000 (rd x300000 x10)).bind fun t352 => ((laws_in.f k t352 x10).bind fun t355 => (laws_FnTrees.j2 k x10 t346 (!t355) x300000))) else (none)) else (laws_FnTrees.j2 k x10 t346 false x300000)) else (none))) else (none)) else (none)) else (none))) else ((impl_BelowOf.f k x300000 0).bind fun t343 => (some ((t343.length : Int) == (wrap64 ((x300000.length : Int) - 1)))))
def laws_FnTrees.j2 : Nat → Int → List Int → Bool → List Int → Option (Bool)
  | 0, _, _, _, _ => none
  | k + 1, x10, x11, x131, x300000 => if x131 = true then (none) else (laws_FnTrees.l1 k x10 x11 1 x300000)
def laws_FnTrees.l1 : Nat → Int → List Int → Int → List Int → Option (Bool)
  | 0, _, _, _, _ => none
  | k + 1, x10, x11, x12, x300000 => if x12 < (x11.length : Int) then (if 0 ≤ x12 then ((impl_Ancestor.f k x300000 (rd x11 x12) x10).bind fun t357 => (if t357 = true then ((impl_BelowOf.f k x300000 (rd x11 x12)).bind fun t359 => ((laws_in.f k t359 x10).bind fun t362 => (if t362 = true then (laws_FnTrees.l1 k x10 x11 (wrap64 (x12 + 1)) x300000) else (none)))) else (none))) else (none)) else (laws_FnTrees.l0 k (wrap64 (x10 + 1)) x300000)
end
def laws_FnTrees.f (k : Nat) (l0 : List Int) : Option (Bool) := (laws_big.f l0).bind fun t295 => (if t295 = true then (some true) else ((spec_DrawTree.f k l0).bind fun t296 => ((spec_DrawPathUp.f k l0).bind fun bt300 => ((spec_DrawTreeOk.f k l0).bind fun t305 => ((spec_DrawAncestor.f k l0).bind fun bt309 => ((impl_TreeOk.f k t305).bind fun t315 => ((spec_TreeOk.f k t305).bind fun t316 => (if (t315 != t316) = true then (none) else ((impl_PathUp.f k bt300.1 bt300.2).bind fun t317 => ((spec_PathUp.f k bt300.1 bt300.2).bind fun t320 => ((laws_sameInts.f k t317 t320).bind fun t323 => (if t323 = true then ((impl_BelowOf.f k bt300.1 bt300.2).bind fun t324 => ((spec_BelowOf.f k bt300.1 bt300.2).bind fun t327 => ((laws_sameInts.f k t324 t327).bind fun t330 => (if t330 = true then ((impl_KidsOf.f k bt300.1 bt300.2).bind fun t331 => ((spec_KidsOf.f k bt300.1 bt300.2).bind fun t334 => ((laws_sameInts.f k t331 t334).bind fun t337 => (if t337 = true then ((impl_DeepOf.f k bt300.1 bt300.2).bind fun t338 => ((spec_DeepOf.f k bt300.1 bt300.2).bind fun t339 => (if t338 = t339 then ((impl_Ancestor.f k bt309.1 bt309.2.1 bt309.2.2).bind fun t340 => ((spec_Ancestor.f k bt309.1 bt309.2.1 bt309.2.2).bind fun t341 => (if (t340 != t341) = true then (none) else ((impl_TreeOk.f k t296).bind fun t342 => (laws_FnTrees.j0 k (!t342) t296))))) else (none)))) else (none))))) else (none))))) else (none)))))))))))))
theorem laws_FnTrees.mono_l : ∀ k, (∀ y0 y1, LeO (laws_FnTrees.j0 k y0 y1) (laws_FnTrees.j0 (k + 1) y0 y1)) ∧ (∀ y0 y1, LeO (laws_FnTrees.l0 k y0 y1) (laws_FnTrees.l0 (k + 1) y0 y1)) ∧ (∀ y0 y1 y2 y3, LeO (laws_FnTrees.j2 k y0 y1 y2 y3) (laws_FnTrees.j2 (k + 1) y0 y1 y2 y3)) ∧ (∀ y0 y1 y2 y3, LeO (laws_FnTrees.l1 k y0 y1 y2 y3) (laws_FnTrees.l1 (k + 1) y0 y1 y2 y3))
  | 0 => ⟨fun _ _ r h => by simp [laws_FnTrees.j0] at h, fun _ _ r h => by simp [laws_FnTrees.l0] at h, fun _ _ _ _ r h => by simp [laws_FnTrees.j2] at h, fun _ _ _ _ r h => by simp [laws_FnTrees.l1] at h⟩
  | k + 1 => by
    have m0_ := @impl_Ancestor.mono
    have m1_ := @impl_BelowOf.mono
    have m2_ := @impl_DeepOf.mono
    have m3_ := @impl_KidsOf.mono
    have m4_ := @impl_PathUp.mono
    have m5_ := @impl_TreeOk.mono
    have m6_ := @laws_in.mono
    have m7_ := @laws_sameInts.mono
    have m8_ := @spec_Ancestor.mono
    have m9_ := @spec_BelowOf.mono
    have m10_ := @spec_DeepOf.mono
    have m11_ := @spec_DrawAncestor.mono
    have m12_ := @spec_DrawPathUp.mono
    have m13_ := @spec_DrawTree.mono
    have m14_ := @spec_DrawTreeOk.mono
    have m15_ := @spec_KidsOf.mono
    have m16_ := @spec_PathUp.mono
    have m17_ := @spec_TreeOk.mono
    obtain ⟨ih0, ih1, ih2, ih3⟩ := laws_FnTrees.mono_l k
    refine ⟨?_, ?_, ?_, ?_⟩
    · intro y0 y1
      unfold laws_FnTrees.j0
      exact LM
    · intro y0 y1
      unfold laws_FnTrees.l0
      exact LM
    · intro y0 y1 y2 y3
      unfold laws_FnTrees.j2
      exact LM
    · intro y0 y1 y2 y3
      unfold laws_FnTrees.l1
      exact LM
theorem laws_FnTrees.mono : ∀ a0 k, LeO (laws_FnTrees.f k a0) (laws_FnTrees.f (k + 1) a0) := by
  intro a0 k
  have m0_ := @impl_Ancestor.mono
  have m1_ := @impl_BelowOf.mono
  have m2_ := @impl_DeepOf.mono
  have m3_ := @impl_KidsOf.mono
  have m4_ := @impl_PathUp.mono
  have m5_ := @impl_TreeOk.mono
  have m6_ := @laws_in.mono
  have m7_ := @laws_sameInts.mono
  have m8_ := @spec_Ancestor.mono
  have m9_ := @spec_BelowOf.mono
  have m10_ := @spec_DeepOf.mono
  have m11_ := @spec_DrawAncestor.mono
  have m12_ := @spec_DrawPathUp.mono
  have m13_ := @spec_DrawTree.mono
  have m14_ := @spec_DrawTreeOk.mono
  have m15_ := @spec_KidsOf.mono
  have m16_ := @spec_PathUp.mono
  have m17_ := @spec_TreeOk.mono
  obtain ⟨ih0, ih1, ih2, ih3⟩ := laws_FnTrees.mono_l k
  unfold laws_FnTrees.f
  exact LM
def laws_FnTrees.T7 : Bool × List (List Nat × List Nat) := (true, [([], []), ([0], [0]), ([], []), ([2, 1], [2]), ([1, 3], [1, 3]), ([4, 3], [4]), ([5], [5]), ([5], [5]), ([6, 7, 5, 5], [5, 6, 7]), ([5], [5]), ([5], [5]), ([9, 10, 8, 5], [5, 9, 10]), ([8, 11, 11, 5], [5, 8, 11]), ([12, 5], [5, 12]), ([5, 13], [5, 13]), ([14, 12], [14]), ([15], [15]), ([15], [15]), ([16, 17, 15, 15], [15, 16, 17]), ([15], [15]), ([15], [15]), ([19, 20, 18, 15], [15, 19, 20]), ([18, 21, 21, 15], [15, 18, 21]), ([22, 15], [15, 22]), ([15, 23], [15, 23]), ([24, 22], [24]), ([25], [25]), ([25], [25]), ([26, 27, 25, 25], [25, 26, 27]), ([25], [25]), ([25], [25]), ([29, 30, 28, 25], [25, 29, 30]), ([28, 31, 31, 25], [25, 28, 31]), ([32, 25], [25, 32]), ([25, 33], [25, 33]), ([34, 32], [34]), ([35], [35]), ([35], [35]), ([36, 37, 35, 35], [35, 36, 37]), ([35], [35]), ([35], [35]), ([39, 40, 38, 35], [35, 39, 40]), ([38, 41, 35], [35, 38, 41]), ([35, 42], [35, 42]), ([43, 41], [43]), ([44], [44]), ([44], [44]), ([44], [44]), ([45, 46, 47, 44, 44], [44, 45, 46, 47]), ([44], [44]), ([44], [44]), ([44], [44]), ([49, 50, 51, 48, 44], [44, 49, 50, 51]), ([48, 52, 44], [44, 48, 52]), ([44, 53], [44, 53]), ([54, 52], [54]), ([55], [55]), ([56, 55, 55], [55, 56]), ([57, 55], [55, 57]), ([55, 58], [55, 58])])
def laws_FnTrees.B7 : List Nat := [0, 1, 0, 7, 15, 31, 63, 63, 255, 63, 63, 2047, 4095, 8191, 16383, 32767, 65535, 65535, 262143, 65535, 65535, 2097151, 4194303, 8388607, 16777215, 33554431, 67108863, 67108863, 268435455, 67108863, 67108863, 2147483647, 4294967295, 8589934591, 17179869183, 34359738367, 68719476735, 68719476735, 274877906943, 68719476735, 68719476735, 2199023255551, 4398046511103, 8796093022207, 17592186044415, 35184372088831, 35184372088831, 35184372088831, 281474976710655, 35184372088831, 35184372088831, 35184372088831, 4503599627370495, 9007199254740991, 18014398509481983, 36028797018963967, 72057594037927935, 144115188075855871, 288230376151711743, 576460752303423487]
theorem laws_FnTrees.tab7 : rtab .any (opsOf Try.f3 7) = laws_FnTrees.T7 := by kernel_rfl
theorem laws_FnTrees.bits7 : waitsOk laws_FnTrees.T7.2 laws_FnTrees.B7 = true := by kernel_rfl
def laws_FnTrees.T13 : Bool × List (List Nat × List Nat) := (true, [([], []), ([], []), ([1], [1]), ([2], [2]), ([0, 3], [0, 3]), ([4], [4]), ([5], [5]), ([6], [6]), ([7], [7]), ([8, 7], [7, 8]), ([7], [7]), ([7], [7]), ([10, 11, 7, 7], [7, 10, 11]), ([12, 7], [7, 12]), ([9, 13, 7], [7, 9, 13]), ([7, 14], [7, 14]), ([15, 12], [15]), ([16], [16]), ([17, 16], [16, 17]), ([18, 16, 16], [16, 18]), ([19], [19]), ([19], [19]), ([21, 19], [19, 21]), ([19], [19]), ([22, 23, 19], [19, 22, 23]), ([24, 19], [19, 24]), ([20, 25, 19, 19], [19, 20, 25]), ([19], [19]), ([26, 27, 26, 19], [19, 26, 27]), ([28, 19], [19, 28]), ([19, 29, 16], [16, 19, 29]), ([16, 30], [16, 30])])
def laws_FnTrees.B13 : List Nat := [0, 0, 2, 6, 15, 31, 63, 127, 255, 511, 255, 255, 3327, 7423, 16383, 32767, 65535, 131071, 262143, 524287, 1048575, 1048575, 3145727, 1048575, 15728639, 32505855, 67108863, 1048575, 268435455, 536870911, 1073741823, 2147483647]
theorem laws_FnTrees.tab13 : rtab .any (opsOf Try.f3 13) = laws_FnTrees.T13 := by kernel_rfl
theorem laws_FnTrees.bits13 : waitsOk laws_FnTrees.T13.2 laws_FnTrees.B13 = true := by kernel_rfl
def laws_FnTrees.T18 : Bool × List (List Nat × List Nat) := (true, [([], []), ([], []), ([], []), ([1, 2], [1, 2]), ([3], [3]), ([], []), ([0, 4, 5], [0, 4, 5]), ([6], [6]), ([7, 6], [7]), ([8], [8]), ([8], [8]), ([8], [8]), ([10, 11, 8], [8, 10, 11]), ([12, 8], [8, 12]), ([9, 13, 8, 8], [8, 9, 13]), ([8], [8]), ([14, 15, 14, 8], [8, 14, 15]), ([16, 8], [8, 16]), ([8, 17], [8, 17])])
def laws_FnTrees.B18 : List Nat := [0, 0, 0, 6, 14, 0, 63, 127, 255, 511, 511, 511, 3583, 7679, 16383, 511, 65535, 131071, 262143]
theorem laws_FnTrees.tab18 : rtab .any (opsOf Try.f3 18) = laws_FnTrees.T18 := by kernel_rfl
theorem laws_FnTrees.bits18 : waitsOk laws_FnTrees.T18.2 laws_FnTrees.B18 = true := by kernel_rfl
def laws_FnTrees.T20 : Bool × List (List Nat × List Nat) := (true, [([], []), ([0], [0]), ([1], [1]), ([], []), ([3], [3]), ([4], [4]), ([5], [5]), ([2, 6], [2, 6]), ([7, 1, 0, 1, 2, 3, 4, 5, 6, 7], [7])])
def laws_FnTrees.B20 : List Nat := [0, 1, 3, 0, 8, 24, 56, 127, 255]
theorem laws_FnTrees.tab20 : rtab .any (opsOf Try.f3 20) = laws_FnTrees.T20 := by kernel_rfl
theorem laws_FnTrees.bits20 : waitsOk laws_FnTrees.T20.2 laws_FnTrees.B20 = true := by kernel_rfl
set_option maxHeartbeats 40000000 in
set_option maxRecDepth 100000 in
theorem laws_FnTrees.calls (k : Nat) (A0 : Option Addr) (c0 : Nat) (l0 : List Int) (r : Bool) (w : World) (hr0 : Kd.C (Kd.int .u8) w A0 l0.length l0) (hc0 : l0.length ≤ c0) (h : laws_FnTrees.f k l0 = some r) :
    Calls Try.prog 3 #[.slice A0 l0.length c0] w fun e w' => e = .returned (.bool r) ∧ Below w.heap.size w w' := by
  have hu26 := Try.underlying26
  have HR0 := aM hr0
  have HC0 := aM hc0
  clear hr0 hc0
  have HB := aM (Below.refl w.heap.size w)
  have H := h
  clear h
  unfold laws_FnTrees.f at H
  replace H := bE H
  obtain ⟨t295, A2, H⟩ := H
  by_cases c3 : t295 = true
  · subst c3
    replace H := ifT H
    obtain rfl := Option.some.inj H
    go_enter Try.func3, Try.ntmps3
    go_wp2_with (first | ((with_reducible refine gate_callee (f := 4) rfl ?_); refine gL (some 14) Try.func4 #[.slice A0 l0.length c0] ?_; (with_reducible refine (laws_big.calls _ _ l0 true _ ?side1 ?side2 A2.out).mono ?_); (case side1 => have X_ := HR0.out; exact TC); (case side2 => exact HC0.out); rintro e w' ⟨rfl, ⟨nd, rfl⟩⟩; refine ⟨_, rfl, ?_⟩))
    go_ret
    exact ⟨by first | rfl | (simp [errW_none, errW_some] <;> rfl) | (simp [*, errW_none, errW_some] <;> rfl), TB⟩
  · replace c3 := Bool.eq_false_iff.mpr c3
    subst c3
    replace H := ifF H
    replace H := bE H
    obtain ⟨t296, A4, H⟩ := H
    replace H := bE H
    obtain ⟨⟨t300, t303⟩, A5, H⟩ := H
    dsimp only at H
    replace H := bE H
    obtain ⟨t305, A6, H⟩ := H
    replace H := bE H
    obtain ⟨⟨t309, t312, t313⟩, A7, H⟩ := H
    dsimp only at H
    have HC8 := aM H
    clear H
    go_enter Try.func3, Try.ntmps3
    go_upto_region 7 with (first | ((with_reducible refine gate_callee (f := 4) rfl ?_); refine gL (some 14) Try.func4 #[.slice A0 l0.length c0] ?_; (with_reducible refine (laws_big.calls _ _ l0 false _ ?side1 ?side2 A2.out).mono ?_); (case side1 => have X_ := HR0.out; exact TC); (case side2 => exact HC0.out); rintro e w' ⟨rfl, ⟨nd, rfl⟩⟩; refine ⟨_, rfl, ?_⟩) | ((with_reducible refine gate_callee (f := 5) rfl ?_); refine gL (some 16) Try.func5 #[.slice A0 l0.length c0] ?_; (with_reducible refine (spec_DrawTree.calls k _ _ l0 t296 _ ?side1 ?side2 A4.out).mono ?_); (case side1 => have X_ := HR0.out; exact TC); (case side2 => exact HC0.out); rintro e w9 ⟨v297, rfl, ho0, hb⟩; refine ⟨_, rfl, ?_⟩; have HO298 := aM (Kd.R_lower ho0 (below_size TB)); replace HB := aM (below_step TB hb); clear ho0 hb) | ((with_reducible refine gate_dst (N := 3) rfl ?_); (try (refine gate_guard (by rfl) ?_; dsimp only)); refine gBx 3 #[.slice none 0 0] 26 ?_; intro gb299 hg w10 hbox hb; have BK299 := aM (hbox); have GW299 := aM ((by rw [hg]; exact (below_size TB) : w.heap.size ≤ gb299)); have GE299 := aM ((by rw [hg]; exact (below_size TB) : w.heap.size ≤ gb299)); replace HO298 := aM (Kd.R_below (by have X_ := HO298.out; exact TR) hb); replace HB := aM (below_step TB hb); clear hb hbox hg; obtain ⟨Ao11, co11, eo11⟩ := Kd.R_slice HO298.out; subst eo11; have hcz12_0 : w10.cell? ⟨gb299, 0, none⟩ = some (.slice none 0 0) := (blk_cell BK299.out 0).trans rfl; have hfz12_0 := blk_frozen BK299.out 0) | ((with_reducible refine gate_callee (f := 6) rfl ?_); refine gL (some 19) Try.func6 #[.slice A0 l0.length c0] ?_; (with_reducible refine (spec_DrawPathUp.calls k _ _ l0 t300 t303 _ ?side1 ?side2 A5.out).mono ?_); (case side1 => exact Kd.C_below HR0.out TB); (case side2 => exact HC0.out); rintro e w13 ⟨v301, rfl, ho0, hb⟩; refine ⟨_, rfl, ?_⟩; have HO302 := aM (Kd.R_lower (Kd.R_new' ho0 (Kd.R_lt (by (with_reducible repeat (first | apply Kd.R_alloc | apply Kd.R_drewN | apply Kd.R_drew)); exact (R_off (Kd.R_types HO298.out BK299.out (by decide)) TO)))) (below_size TB)); replace HO298 := aM (Kd.R_elder' (by (with_reducible repeat (first | apply Kd.R_alloc | apply Kd.R_drewN | apply Kd.R_drew)); exact (R_off (Kd.R_types HO298.out BK299.out (by decide)) TO)) (Kd.R_base ho0) hb); replace BK299 := aM (blk_below (g := gb299) (o := .cells #[.slice Ao11 t296.length co11] 26 (0, 0)) (by (with_reducible repeat (first | refine blk_drewN ?_ _ | refine blk_drew ?_ | refine blk_alloc ?_ _)); refine blk_put (cs := #[.slice none 0 0]) ?_ 0 _ rfl; (with_reducible repeat (first | refine blk_drewN ?_ _ | refine blk_drew ?_ | refine blk_alloc ?_ _)); exact BK299.out) hb); replace HB := aM (below_step TB hb); clear ho0 hb) | ((with_reducible refine gate_dst (N := 4) rfl ?_); (try (refine gate_guard (by rfl) ?_; dsimp only)); refine gBx 4 #[.slice none 0 0] 26 ?_; intro gb304 hg w14 hbox hb; have BK304 := aM (hbox); have GW304 := aM ((by rw [hg]; exact (below_size TB) : w.heap.size ≤ gb304)); have GE304 := aM ((by rw [hg]; exact (below_size TB) : w.heap.size ≤ gb304)); have NB299_304 := aM ((by rw [hg]; exact Nat.ne_of_lt (blk_lt (g := gb299) (o := .cells #[.slice Ao11 t296.length co11] 26 (0, 0)) TK) : gb299 ≠ gb304)); have NB304_299 := aM ((by rw [hg]; exact Nat.ne_of_gt (blk_lt (g := gb299) (o := .cells #[.slice Ao11 t296.length co11] 26 (0, 0)) TK) : gb304 ≠ gb299)); replace HO298 := aM (Kd.R_below (by have X_ := HO298.out; exact TR) hb); replace HO302 := aM (Kd.R_below (by have X_ := HO302.out; exact TR) hb); replace BK299 := aM (blk_below (g := gb299) (o := .cells #[.slice Ao11 t296.length co11] 26 (0, 0)) TK hb); replace HB := aM (below_step TB hb); clear hb hbox hg; obtain ⟨Ao15, co15, eo15⟩ := Kd.R_slice HO302.out; subst eo15; have hnb16 := NB304_299.out; have hnc16 := NB299_304.out; have hcz17_0 : w14.cell? ⟨gb304, 0, none⟩ = some (.slice none 0 0) := (blk_cell BK304.out 0).trans rfl; have hfz17_0 := blk_frozen BK304.out 0) | ((with_reducible refine gate_callee (f := 7) rfl ?_); refine gL (some 23) Try.func7 #[.slice A0 l0.length c0] ?_; (with_reducible refine (spec_DrawTreeOk.calls k _ _ l0 t305 _ ?side1 ?side2 A6.out).mono ?_); (case side1 => exact Kd.C_below HR0.out TB); (case side2 => exact HC0.out); rintro e w18 ⟨v306, rfl, ho0, hb⟩; refine ⟨_, rfl, ?_⟩; have HO307 := aM (Kd.R_lower (Kd.R_new' (Kd.R_new' ho0 (Kd.R_lt (by (with_reducible repeat (first | apply Kd.R_alloc | apply Kd.R_drewN | apply Kd.R_drew)); exact (R_off (Kd.R_types HO298.out BK304.out (by decide)) TO)))) (Kd.R_lt (by (with_reducible repeat (first | apply Kd.R_alloc | apply Kd.R_drewN | apply Kd.R_drew)); exact (R_off (Kd.R_types HO302.out BK304.out (by decide)) TO)))) (below_size TB)); replace HO298 := aM (Kd.R_elder' (by (with_reducible repeat (first | apply Kd.R_alloc | apply Kd.R_drewN | apply Kd.R_drew)); exact (R_off (Kd.R_types HO298.out BK304.out (by decide)) TO)) (Kd.R_base ho0) hb); replace HO302 := aM (Kd.R_elder' (by (with_reducible repeat (first | apply Kd.R_alloc | apply Kd.R_drewN | apply Kd.R_drew)); exact (R_off (Kd.R_types HO302.out BK304.out (by decide)) TO)) (Kd.R_base ho0) hb); replace BK299 := aM (blk_below (g := gb299) (o := .cells #[.slice Ao11 t296.length co11] 26 (0, 0)) (by (with_reducible repeat (first | refine blk_drewN ?_ _ | refine blk_drew ?_ | refine blk_alloc ?_ _)); refine blk_far ?_ NB299_304.out _; (with_reducible repeat (first | refine blk_drewN ?_ _ | refine blk_drew ?_ | refine blk_alloc ?_ _)); exact BK299.out) hb); replace BK304 := aM (blk_below (g := gb304) (o := .cells #[.slice Ao15 t300.length co15] 26 (0, 0)) (by (with_reducible repeat (first | refine blk_drewN ?_ _ | refine blk_drew ?_ | refine blk_alloc ?_ _)); refine blk_put (cs := #[.slice none 0 0]) ?_ 0 _ rfl; (with_reducible repeat (first | refine blk_drewN ?_ _ | refine blk_drew ?_ | refine blk_alloc ?_ _)); exact BK304.out) hb); replace HB := aM (below_step TB hb); clear ho0 hb) | ((with_reducible refine gate_dst (N := 6) rfl ?_); (try (refine gate_guard (by rfl) ?_; dsimp only)); refine gBx 6 #[.slice none 0 0] 26 ?_; intro gb308 hg w19 hbox hb; have BK308 := aM (hbox); have GW308 := aM ((by rw [hg]; exact (below_size TB) : w.heap.size ≤ gb308)); have GE308 := aM ((by rw [hg]; exact (below_size TB) : w.heap.size ≤ gb308)); have NB299_308 := aM ((by rw [hg]; exact Nat.ne_of_lt (blk_lt (g := gb299) (o := .cells #[.slice Ao11 t296.length co11] 26 (0, 0)) TK) : gb299 ≠ gb308)); have NB308_299 := aM ((by rw [hg]; exact Nat.ne_of_gt (blk_lt (g := gb299) (o := .cells #[.slice Ao11 t296.length co11] 26 (0, 0)) TK) : gb308 ≠ gb299)); have NB304_308 := aM ((by rw [hg]; exact Nat.ne_of_lt (blk_lt (g := gb304) (o := .cells #[.slice Ao15 t300.length co15] 26 (0, 0)) TK) : gb304 ≠ gb308)); have NB308_304 := aM ((by rw [hg]; exact Nat.ne_of_gt (blk_lt (g := gb304) (o := .cells #[.slice Ao15 t300.length co15] 26 (0, 0)) TK) : gb308 ≠ gb304)); replace HO298 := aM (Kd.R_below (by have X_ := HO298.out; exact TR) hb); replace HO302 := aM (Kd.R_below (by have X_ := HO302.out; exact TR) hb); replace HO307 := aM (Kd.R_below (by have X_ := HO307.out; exact TR) hb); replace BK299 := aM (blk_below (g := gb299) (o := .cells #[.slice Ao11 t296.length co11] 26 (0, 0)) TK hb); replace BK304 := aM (blk_below (g := gb304) (o := .cells #[.slice Ao15 t300.length co15] 26 (0, 0)) TK hb); replace HB := aM (below_step TB hb); clear hb hbox hg; obtain ⟨Ao20, co20, eo20⟩ := Kd.R_slice HO307.out; subst eo20; have hnb21 := NB308_299.out; have hnc21 := NB299_308.out; have hnb22 := NB308_304.out; have hnc22 := NB304_308.out; have hcz23_0 : w19.cell? ⟨gb308, 0, none⟩ = some (.slice none 0 0) := (blk_cell BK308.out 0).trans rfl; have hfz23_0 := blk_frozen BK308.out 0) | ((with_reducible refine gate_callee (f := 8) rfl ?_); refine gL (some 26) Try.func8 #[.slice A0 l0.length c0] ?_; (with_reducible refine (spec_DrawAncestor.calls k _ _ l0 t309 t312 t313 _ ?side1 ?side2 A7.out).mono ?_); (case side1 => exact Kd.C_below HR0.out TB); (case side2 => exact HC0.out); rintro e w24 ⟨v310, rfl, ho0, hb⟩; refine ⟨_, rfl, ?_⟩; have HO311 := aM (Kd.R_lower (Kd.R_new' (Kd.R_new' (Kd.R_new' ho0 (Kd.R_lt (by (with_reducible repeat (first | apply Kd.R_alloc | apply Kd.R_drewN | apply Kd.R_drew)); exact (R_off (Kd.R_types HO298.out BK308.out (by decide)) TO)))) (Kd.R_lt (by (with_reducible repeat (first | apply Kd.R_alloc | apply Kd.R_drewN | apply Kd.R_drew)); exact (R_off (Kd.R_types HO302.out BK308.out (by decide)) TO)))) (Kd.R_lt (by (with_reducible repeat (first | apply Kd.R_alloc | apply Kd.R_drewN | apply Kd.R_drew)); exact (R_off (Kd.R_types HO307.out BK308.out (by decide)) TO)))) (below_size TB)); replace HO298 := aM (Kd.R_elder' (by (with_reducible repeat (first | apply Kd.R_alloc | apply Kd.R_drewN | apply Kd.R_drew)); exact (R_off (Kd.R_types HO298.out BK308.out (by decide)) TO)) (Kd.R_base ho0) hb); replace HO302 := aM (Kd.R_elder' (by (with_reducible repeat (first | apply Kd.R_alloc | apply Kd.R_drewN | apply Kd.R_drew)); exact (R_off (Kd.R_types HO302.out BK308.out (by decide)) TO)) (Kd.R_base ho0) hb); replace HO307 := aM (Kd.R_elder' (by (with_reducible repeat (first | apply Kd.R_alloc | apply Kd.R_drewN | apply Kd.R_drew)); exact (R_off (Kd.R_types HO307.out BK308.out (by decide)) TO)) (Kd.R_base ho0) hb); replace BK299 := aM (blk_below (g := gb299) (o := .cells #[.slice Ao11 t296.length co11] 26 (0, 0)) (by (with_reducible repeat (first | refine blk_drewN ?_ _ | refine blk_drew ?_ | refine blk_alloc ?_ _)); refine blk_far ?_ NB299_308.out _; (with_reducible repeat (first | refine blk_drewN ?_ _ | refine blk_drew ?_ | refine blk_alloc ?_ _)); exact BK299.out) hb); replace BK304 := aM (blk_below (g := gb304) (o := .cells #[.slice Ao15 t300.length co15] 26 (0, 0)) (by (with_reducible repeat (first | refine blk_drewN ?_ _ | refine blk_drew ?_ | refine blk_alloc ?_ _)); refine blk_far ?_ NB304_308.out _; (with_reducible repeat (first | refine blk_drewN ?_ _ | refine blk_drew ?_ | refine blk_alloc ?_ _)); exact BK304.out) hb); replace BK308 := aM (blk_below (g := gb308) (o := .cells #[.slice Ao20 t305.length co20] 26 (0, 0)) (by (with_reducible repeat (first | refine blk_drewN ?_ _ | refine blk_drew ?_ | refine blk_alloc ?_ _)); refine blk_put (cs := #[.slice none 0 0]) ?_ 0 _ rfl; (with_reducible repeat (first | refine blk_drewN ?_ _ | refine blk_drew ?_ | refine blk_alloc ?_ _)); exact BK308.out) hb); replace HB := aM (below_step TB hb); clear ho0 hb) | ((with_reducible refine gate_dst (N := 7) rfl ?_); (try (refine gate_guard (by rfl) ?_; dsimp only)); refine gBx 7 #[.slice none 0 0] 26 ?_; intro gb314 hg w25 hbox hb; have BK314 := aM (hbox); have GW314 := aM ((by rw [hg]; exact (below_size TB) : w.heap.size ≤ gb314)); have GE314 := aM ((by rw [hg]; exact (below_size TB) : w.heap.size ≤ gb314)); have NB299_314 := aM ((by rw [hg]; exact Nat.ne_of_lt (blk_lt (g := gb299) (o := .cells #[.slice Ao11 t296.length co11] 26 (0, 0)) TK) : gb299 ≠ gb314)); have NB314_299 := aM ((by rw [hg]; exact Nat.ne_of_gt (blk_lt (g := gb299) (o := .cells #[.slice Ao11 t296.length co11] 26 (0, 0)) TK) : gb314 ≠ gb299)); have NB304_314 := aM ((by rw [hg]; exact Nat.ne_of_lt (blk_lt (g := gb304) (o := .cells #[.slice Ao15 t300.length co15] 26 (0, 0)) TK) : gb304 ≠ gb314)); have NB314_304 := aM ((by rw [hg]; exact Nat.ne_of_gt (blk_lt (g := gb304) (o := .cells #[.slice Ao15 t300.length co15] 26 (0, 0)) TK) : gb314 ≠ gb304)); have NB308_314 := aM ((by rw [hg]; exact Nat.ne_of_lt (blk_lt (g := gb308) (o := .cells #[.slice Ao20 t305.length co20] 26 (0, 0)) TK) : gb308 ≠ gb314)); have NB314_308 := aM ((by rw [hg]; exact Nat.ne_of_gt (blk_lt (g := gb308) (o := .cells #[.slice Ao20 t305.length co20] 26 (0, 0)) TK) : gb314 ≠ gb308)); replace HO298 := aM (Kd.R_below (by have X_ := HO298.out; exact TR) hb); replace HO302 := aM (Kd.R_below (by have X_ := HO302.out; exact TR) hb); replace HO307 := aM (Kd.R_below (by have X_ := HO307.out; exact TR) hb); replace HO311 := aM (Kd.R_below (by have X_ := HO311.out; exact TR) hb); replace BK299 := aM (blk_below (g := gb299) (o := .cells #[.slice Ao11 t296.length co11] 26 (0, 0)) TK hb); replace BK304 := aM (blk_below (g := gb304) (o := .cells #[.slice Ao15 t300.length co15] 26 (0, 0)) TK hb); replace BK308 := aM (blk_below (g := gb308) (o := .cells #[.slice Ao20 t305.length co20] 26 (0, 0)) TK hb); replace HB := aM (below_step TB hb); clear hb hbox hg; obtain ⟨Ao26, co26, eo26⟩ := Kd.R_slice HO311.out; subst eo26; have hnb27 := NB314_299.out; have hnc27 := NB299_314.out; have hnb28 := NB314_304.out; have hnc28 := NB304_314.out; have hnb29 := NB314_308.out; have hnc29 := NB308_314.out; have hcz30_0 : w25.cell? ⟨gb314, 0, none⟩ = some (.slice none 0 0) := (blk_cell BK314.out 0).trans rfl; have hfz30_0 := blk_frozen BK314.out 0))
    (try simp only [Act.put, List.setIfInBounds_toArray, List.set_cons_zero, List.set_cons_succ])
    go_cut [89] (fun v89 wc => ∃ (kq : Nat) (x89_7 : Bool), v89 = .bool x89_7 ∧ Aside0 (laws_FnTrees.j0 kq x89_7 t296 = some r) ∧ Aside0 (kq ≤ k) ∧ Aside0 (Kd.R (Kd.int .i64) 3 wc w.heap.size (fun k_ => some k_ ≠ ((.slice Ao15 t300.length co15) : Value).ownBlock ∧ some k_ ≠ ((.slice Ao20 t305.length co20) : Value).ownBlock ∧ some k_ ≠ ((.slice Ao26 t309.length co26) : Value).ownBlock) (.slice Ao11 t296.length co11) t296) ∧ Aside0 (Kd.R (Kd.int .i64) 3 wc w.heap.size (fun k_ => some k_ ≠ ((.slice Ao11 t296.length co11) : Value).ownBlock ∧ some k_ ≠ ((.slice Ao20 t305.length co20) : Value).ownBlock ∧ some k_ ≠ ((.slice Ao26 t309.length co26) : Value).ownBlock) (.slice Ao15 t300.length co15) t300) ∧ Aside0 (Kd.R (Kd.int .i64) 3 wc w.heap.size (fun k_ => some k_ ≠ ((.slice Ao11 t296.length co11) : Value).ownBlock ∧ some k_ ≠ ((.slice Ao15 t300.length co15) : Value).ownBlock ∧ some k_ ≠ ((.slice Ao26 t309.length co26) : Value).ownBlock) (.slice Ao20 t305.length co20) t305) ∧ Aside0 (Kd.R (Kd.int .i64) 3 wc w.heap.size (fun k_ => some k_ ≠ ((.slice Ao11 t296.length co11) : Value).ownBlock ∧ some k_ ≠ ((.slice Ao15 t300.length co15) : Value).ownBlock ∧ some k_ ≠ ((.slice Ao20 t305.length co20) : Value).ownBlock) (.slice Ao26 t309.length co26) t309) ∧ Aside0 (wc.heap[gb299]? = some (.cells #[(.slice Ao11 t296.length co11)] 26 (0, 0))) ∧ Aside0 (wc.heap[gb304]? = some (.cells #[(.slice Ao15 t300.length co15)] 26 (0, 0))) ∧ Aside0 (wc.heap[gb308]? = some (.cells #[(.slice Ao20 t305.length co20)] 26 (0, 0))) ∧ Aside0 (wc.heap[gb314]? = some (.cells #[(.slice Ao26 t309.length co26)] 26 (0, 0))) ∧ Aside0 (Below w.heap.size w wc))
    case first =>
      have H := HC8.out
      clear HC8
      replace H := bE H
      obtain ⟨t315, A31, H⟩ := H
      replace H := bE H
      obtain ⟨t316, A32, H⟩ := H
      by_cases c33 : (t315 != t316) = true
      · rw [if_pos c33] at H
        have c33b0 : (t315 != t316) = true := c33
        (try (have c33b1 : decide (t315 = t316) = false := by simpa using c33))
        (try (have c33b2 : (t315 == t316) = false := by simpa using c33))
        (try (have c33b3 : ¬ (t315 = t316) := by simpa using c33))
        clear c33
        (first | rw [c33b0] | (simp only [i64_w, i32_w]; rw [c33b0]) | skip)
        exact absurd H (by simp)
      · rw [if_neg c33] at H
        have c33b0 : (t315 != t316) = false := by simpa using c33
        (try (have c33b1 : decide (t315 = t316) = true := by simpa using c33))
        (try (have c33b2 : (t315 == t316) = true := by simpa using c33))
        clear c33
        (first | rw [c33b0] | (simp only [i64_w, i32_w]; rw [c33b0]) | skip)
        replace H := bE H
        obtain ⟨t317, A34, H⟩ := H
        replace H := bE H
        obtain ⟨t320, A35, H⟩ := H
        replace H := bE H
        obtain ⟨t323, A36, H⟩ := H
        by_cases c37 : t323 = true
        · subst c37
          replace H := ifT H
          replace H := bE H
          obtain ⟨t324, A38, H⟩ := H
          replace H := bE H
          obtain ⟨t327, A39, H⟩ := H
          replace H := bE H
          obtain ⟨t330, A40, H⟩ := H
          by_cases c41 : t330 = true
          · subst c41
            replace H := ifT H
            replace H := bE H
            obtain ⟨t331, A42, H⟩ := H
            replace H := bE H
            obtain ⟨t334, A43, H⟩ := H
            replace H := bE H
            obtain ⟨t337, A44, H⟩ := H
            by_cases c45 : t337 = true
            · subst c45
              replace H := ifT H
              replace H := bE H
              obtain ⟨t338, A46, H⟩ := H
              replace H := bE H
              obtain ⟨t339, A47, H⟩ := H
              by_cases c48 : t338 = t339
              · rw [if_pos c48] at H
                have c48b0 : (t338 == t339) = true := beq_iff_eq.mpr c48
                have c48b1 : (t338 != t339) = false := bne_eq_false_iff_eq.mpr c48
                clear c48
                replace H := bE H
                obtain ⟨t340, A49, H⟩ := H
                replace H := bE H
                obtain ⟨t341, A50, H⟩ := H
                by_cases c51 : (t340 != t341) = true
                · rw [if_pos c51] at H
                  have c51b0 : (t340 != t341) = true := c51
                  (try (have c51b1 : decide (t340 = t341) = false := by simpa using c51))
                  (try (have c51b2 : (t340 == t341) = false := by simpa using c51))
                  (try (have c51b3 : ¬ (t340 = t341) := by simpa using c51))
                  clear c51
                  exact absurd H (by simp)
                · rw [if_neg c51] at H
                  have c51b0 : (t340 != t341) = false := by simpa using c51
                  (try (have c51b1 : decide (t340 = t341) = true := by simpa using c51))
                  (try (have c51b2 : (t340 == t341) = true := by simpa using c51))
                  clear c51
                  replace H := bE H
                  obtain ⟨t342, A52, H⟩ := H
                  have H' := aM H
                  clear H
                  try go_wp2
                  have n0_ : Aside0 (Kd.R (Kd.int .i64) 3 (w25.setCell ⟨gb314, 0, none⟩ (.slice Ao26 t309.length co26)) w.heap.size (fun k_ => some k_ ≠ (.slice Ao15 t300.length co15 : Value).ownBlock ∧ some k_ ≠ (.slice Ao20 t305.length co20 : Value).ownBlock ∧ some k_ ≠ (.slice Ao26 t309.length co26 : Value).ownBlock) (.slice Ao11 t296.length co11) t296) := ⟨by (with_reducible repeat (first | apply Kd.R_alloc | apply Kd.R_drewN | apply Kd.R_drew)); exact Kd.R_mono (Kd.R_far (p := ⟨gb314, 0, none⟩) (Kd.R_types HO298.out BK314.out (by decide)) (fun _ hk => hk.2) (.slice Ao26 t309.length co26)) (fun _ hk => ⟨hk.1.1.1.2, ⟨hk.1.1.2, hk.1.2⟩⟩)⟩
                  have n1_ : Aside0 (Kd.R (Kd.int .i64) 3 (w25.setCell ⟨gb314, 0, none⟩ (.slice Ao26 t309.length co26)) w.heap.size (fun k_ => some k_ ≠ (.slice Ao11 t296.length co11 : Value).ownBlock ∧ some k_ ≠ (.slice Ao20 t305.length co20 : Value).ownBlock ∧ some k_ ≠ (.slice Ao26 t309.length co26 : Value).ownBlock) (.slice Ao15 t300.length co15) t300) := ⟨by (with_reducible repeat (first | apply Kd.R_alloc | apply Kd.R_drewN | apply Kd.R_drew)); exact Kd.R_mono (Kd.R_far (p := ⟨gb314, 0, none⟩) (Kd.R_types HO302.out BK314.out (by decide)) (fun _ hk => hk.2) (.slice Ao26 t309.length co26)) (fun _ hk => ⟨hk.1.1.1.2, ⟨hk.1.1.2, hk.1.2⟩⟩)⟩
                  have n2_ : Aside0 (Kd.R (Kd.int .i64) 3 (w25.setCell ⟨gb314, 0, none⟩ (.slice Ao26 t309.length co26)) w.heap.size (fun k_ => some k_ ≠ (.slice Ao11 t296.length co11 : Value).ownBlock ∧ some k_ ≠ (.slice Ao15 t300.length co15 : Value).ownBlock ∧ some k_ ≠ (.slice Ao26 t309.length co26 : Value).ownBlock) (.slice Ao20 t305.length co20) t305) := ⟨by (with_reducible repeat (first | apply Kd.R_alloc | apply Kd.R_drewN | apply Kd.R_drew)); exact Kd.R_mono (Kd.R_far (p := ⟨gb314, 0, none⟩) (Kd.R_types HO307.out BK314.out (by decide)) (fun _ hk => hk.2) (.slice Ao26 t309.length co26)) (fun _ hk => ⟨hk.1.1.1.2, ⟨hk.1.1.2, hk.1.2⟩⟩)⟩
                  have n3_ : Aside0 (Kd.R (Kd.int .i64) 3 (w25.setCell ⟨gb314, 0, none⟩ (.slice Ao26 t309.length co26)) w.heap.size (fun k_ => some k_ ≠ (.slice Ao11 t296.length co11 : Value).ownBlock ∧ some k_ ≠ (.slice Ao15 t300.length co15 : Value).ownBlock ∧ some k_ ≠ (.slice Ao20 t305.length co20 : Value).ownBlock) (.slice Ao26 t309.length co26) t309) := ⟨by (with_reducible repeat (first | apply Kd.R_alloc | apply Kd.R_drewN | apply Kd.R_drew)); exact Kd.R_mono (Kd.R_far (p := ⟨gb314, 0, none⟩) (Kd.R_types HO311.out BK314.out (by decide)) (fun _ hk => hk.2) (.slice Ao26 t309.length co26)) (fun _ hk => ⟨hk.1.1.1.2, ⟨hk.1.1.2, hk.1.2⟩⟩)⟩
                  have n4_ : Aside0 ((w25.setCell ⟨gb314, 0, none⟩ (.slice Ao26 t309.length co26)).heap[gb299]? = some (.cells #[.slice Ao11 t296.length co11] 26 (0, 0))) := ⟨by (with_reducible repeat (first | refine blk_drewN ?_ _ | refine blk_drew ?_ | refine blk_alloc ?_ _)); refine blk_far ?_ NB299_314.out _; (with_reducible repeat (first | refine blk_drewN ?_ _ | refine blk_drew ?_ | refine blk_alloc ?_ _)); exact BK299.out⟩
                  have n5_ : Aside0 ((w25.setCell ⟨gb314, 0, none⟩ (.slice Ao26 t309.length co26)).heap[gb304]? = some (.cells #[.slice Ao15 t300.length co15] 26 (0, 0))) := ⟨by (with_reducible repeat (first | refine blk_drewN ?_ _ | refine blk_drew ?_ | refine blk_alloc ?_ _)); refine blk_far ?_ NB304_314.out _; (with_reducible repeat (first | refine blk_drewN ?_ _ | refine blk_drew ?_ | refine blk_alloc ?_ _)); exact BK304.out⟩
                  have n6_ : Aside0 ((w25.setCell ⟨gb314, 0, none⟩ (.slice Ao26 t309.length co26)).heap[gb308]? = some (.cells #[.slice Ao20 t305.length co20] 26 (0, 0))) := ⟨by (with_reducible repeat (first | refine blk_drewN ?_ _ | refine blk_drew ?_ | refine blk_alloc ?_ _)); refine blk_far ?_ NB308_314.out _; (with_reducible repeat (first | refine blk_drewN ?_ _ | refine blk_drew ?_ | refine blk_alloc ?_ _)); exact BK308.out⟩
                  have n7_ : Aside0 ((w25.setCell ⟨gb314, 0, none⟩ (.slice Ao26 t309.length co26)).heap[gb314]? = some (.cells #[.slice Ao26 t309.length co26] 26 (0, 0))) := ⟨by (with_reducible repeat (first | refine blk_drewN ?_ _ | refine blk_drew ?_ | refine blk_alloc ?_ _)); refine blk_put (cs := #[.slice none 0 0]) ?_ 0 _ rfl; (with_reducible repeat (first | refine blk_drewN ?_ _ | refine blk_drew ?_ | refine blk_alloc ?_ _)); exact BK314.out⟩
                  have n8_ : Aside0 (Below w.heap.size w (w25.setCell ⟨gb314, 0, none⟩ (.slice Ao26 t309.length co26))) := ⟨TB⟩
                  (try clear HO298)
                  (try clear HO302)
                  (try clear HO307)
                  (try clear HO311)
                  (try clear BK299)
                  (try clear BK304)
                  (try clear BK308)
                  (try clear BK314)
                  (try clear HB)
                  generalize (w25.setCell ⟨gb314, 0, none⟩ (.slice Ao26 t309.length co26)) = w53 at n0_ n1_ n2_ n3_ n4_ n5_ n6_ n7_ n8_ ⊢
                  have HO298 := n0_
                  have HO302 := n1_
                  have HO307 := n2_
                  have HO311 := n3_
                  have BK299 := n4_
                  have BK304 := n5_
                  have BK308 := n6_
                  have BK314 := n7_
                  have HB := n8_
                  clear n0_ n1_ n2_ n3_ n4_ n5_ n6_ n7_ n8_
                  replace HO298 := aM (Kd.R_drew HO298.out)
                  replace HO302 := aM (Kd.R_drew HO302.out)
                  replace HO307 := aM (Kd.R_drew HO307.out)
                  replace HO311 := aM (Kd.R_drew HO311.out)
                  replace BK299 := aM (blk_drew BK299.out)
                  replace BK304 := aM (blk_drew BK304.out)
                  replace BK308 := aM (blk_drew BK308.out)
                  replace BK314 := aM (blk_drew BK314.out)
                  replace HB := aM (below_drew1 HB.out)
                  refine start_ (n := 60) (S := fun w' => w'.cell? ⟨gb308, 0, none⟩ = some (.slice Ao20 t305.length co20) ∧ w'.cell? ⟨gb304, 0, none⟩ = some (.slice Ao15 t300.length co15) ∧ w'.cell? ⟨gb314, 0, none⟩ = some (.slice Ao26 t309.length co26) ∧ w'.cell? ⟨gb299, 0, none⟩ = some (.slice Ao11 t296.length co11)) (ds := []) (Array.replicate 60 false) (by kernel_rfl) rfl rfl ⟨(blk_cell BK308.out 0).trans rfl, (blk_cell BK304.out 0).trans rfl, (blk_cell BK314.out 0).trans rfl, (blk_cell BK299.out 0).trans rfl⟩ (fun hHeld => ?_); refine with_tabW laws_FnTrees.tab7 laws_FnTrees.bits7 (fun HT_ HW_ => ?_)
                  generalize w53.drew = w54 at HO298 HO302 HO307 HO311 BK299 BK304 BK308 BK314 HB HO298 HO302 HO307 HO311 hHeld ⊢
                  refine pT 0 (some 30) ?_
                  refine pT 2 (some 32) ?_
                  refine pO 1 (some 31) (fun K hK => ?_)
                  refine gG Try.func9 #[.agg #[.slice Ao20 t305.length co20]] ?_
                  with_reducible refine (impl_TreeOk.calls k _ _ t305 t315 _ ?side1 ?side2 A31.out).mono ?_
                  (case side1 => have X_ := (Kd.R_reads' HO307.out).2.2; exact TC)
                  (case side2 => exact (Kd.R_reads' HO307.out).2.1)
                  rintro e w55 ⟨rfl, hb⟩
                  refine ⟨_, rfl, ?_⟩
                  have n0_ := aM (Kd.R_below (by have X_ := HO298.out; exact TR) hb)
                  have n1_ := aM (Kd.R_below (by have X_ := HO302.out; exact TR) hb)
                  have n2_ := aM (Kd.R_below (by have X_ := HO307.out; exact TR) hb)
                  have n3_ := aM (Kd.R_below (by have X_ := HO311.out; exact TR) hb)
                  have n4_ := aM (blk_below (g := gb299) (o := .cells #[.slice Ao11 t296.length co11] 26 (0, 0)) TK hb)
                  have n5_ := aM (blk_below (g := gb304) (o := .cells #[.slice Ao15 t300.length co15] 26 (0, 0)) TK hb)
                  have n6_ := aM (blk_below (g := gb308) (o := .cells #[.slice Ao20 t305.length co20] 26 (0, 0)) TK hb)
                  have n7_ := aM (blk_below (g := gb314) (o := .cells #[.slice Ao26 t309.length co26] 26 (0, 0)) TK hb)
                  have n8_ := aM (below_step TB hb)
                  clear HO298
                  clear HO302
                  clear HO307
                  clear HO311
                  clear BK299
                  clear BK304
                  clear BK308
                  clear BK314
                  clear HB
                  have HO298 := n0_
                  have HO302 := n1_
                  have HO307 := n2_
                  have HO311 := n3_
                  have BK299 := n4_
                  have BK304 := n5_
                  have BK308 := n6_
                  have BK314 := n7_
                  have HB := n8_
                  clear n0_ n1_ n2_ n3_ n4_ n5_ n6_ n7_ n8_
                  (try clear hb)
                  (try clear hb2)
                  (try clear hk)
                  (try clear hi)
                  refine hK.out _ _ ⟨(blk_cell BK308.out 0).trans rfl, (blk_cell BK304.out 0).trans rfl, (blk_cell BK314.out 0).trans rfl, (blk_cell BK299.out 0).trans rfl⟩ (fun hHeld => ?_)
                  clear hK K
                  refine nR ?_
                  refine pO 3 (some 33) (fun K hK => ?_)
                  refine gG Try.func10 #[.agg #[.slice Ao20 t305.length co20]] ?_
                  with_reducible refine (spec_TreeOk.calls k _ _ t305 t316 _ ?side1 ?side2 A32.out).mono ?_
                  (case side1 => have X_ := (Kd.R_reads' HO307.out).2.2; exact TC)
                  (case side2 => exact (Kd.R_reads' HO307.out).2.1)
                  rintro e w56 ⟨rfl, hb⟩
                  refine ⟨_, rfl, ?_⟩
                  have n0_ := aM (Kd.R_below (by have X_ := HO298.out; exact TR) hb)
                  have n1_ := aM (Kd.R_below (by have X_ := HO302.out; exact TR) hb)
                  have n2_ := aM (Kd.R_below (by have X_ := HO307.out; exact TR) hb)
                  have n3_ := aM (Kd.R_below (by have X_ := HO311.out; exact TR) hb)
                  have n4_ := aM (blk_below (g := gb299) (o := .cells #[.slice Ao11 t296.length co11] 26 (0, 0)) TK hb)
                  have n5_ := aM (blk_below (g := gb304) (o := .cells #[.slice Ao15 t300.length co15] 26 (0, 0)) TK hb)
                  have n6_ := aM (blk_below (g := gb308) (o := .cells #[.slice Ao20 t305.length co20] 26 (0, 0)) TK hb)
                  have n7_ := aM (blk_below (g := gb314) (o := .cells #[.slice Ao26 t309.length co26] 26 (0, 0)) TK hb)
                  have n8_ := aM (below_step TB hb)
                  clear HO298
                  clear HO302
                  clear HO307
                  clear HO311
                  clear BK299
                  clear BK304
                  clear BK308
                  clear BK314
                  clear HB
                  have HO298 := n0_
                  have HO302 := n1_
                  have HO307 := n2_
                  have HO311 := n3_
                  have BK299 := n4_
                  have BK304 := n5_
                  have BK308 := n6_
                  have BK314 := n7_
                  have HB := n8_
                  clear n0_ n1_ n2_ n3_ n4_ n5_ n6_ n7_ n8_
                  (try clear hb)
                  (try clear hb2)
                  (try clear hk)
                  (try clear hi)
                  refine hK.out _ _ ⟨(blk_cell BK308.out 0).trans rfl, (blk_cell BK304.out 0).trans rfl, (blk_cell BK314.out 0).trans rfl, (blk_cell BK299.out 0).trans rfl⟩ (fun hHeld => ?_)
                  clear hK K
                  refine nR ?_
                  refine pP 4 (some 34) ?_
                  refine pP 5 (some 35) ?_
                  refine pP 7 (some 37) ?_
                  refine pP 10 (some 40) ?_
                  refine pT 6 (some 36) ?_
                  refine pT 9 (some 39) ?_
                  refine pO 8 (some 38) (fun K hK => ?_)
                  refine gG Try.func12 #[.agg #[.slice Ao15 t300.length co15], .int .i64 t303] ?_
                  with_reducible refine (impl_PathUp.calls k _ _ t300 t303 t317 _ ?side1 ?side2 A34.out).mono ?_
                  (case side1 => have X_ := (Kd.R_reads' HO302.out).2.2; exact TC)
                  (case side2 => exact (Kd.R_reads' HO302.out).2.1)
                  rintro e w57 ⟨v318, rfl, ho0, hb⟩
                  refine ⟨_, rfl, ?_⟩
                  have n0_ := aM (Kd.R_elder' (by have X_ := HO298.out; exact TR) (Kd.R_base ho0) hb)
                  have n1_ := aM (Kd.R_elder' (by have X_ := HO302.out; exact TR) (Kd.R_base ho0) hb)
                  have n2_ := aM (Kd.R_elder' (by have X_ := HO307.out; exact TR) (Kd.R_base ho0) hb)
                  have n3_ := aM (Kd.R_elder' (by have X_ := HO311.out; exact TR) (Kd.R_base ho0) hb)
                  have n4_ := aM (Kd.R_lower (Kd.R_new' (Kd.R_new' (Kd.R_new' (Kd.R_new' ho0 (Kd.R_lt (by have X_ := HO298.out; exact TR))) (Kd.R_lt (by have X_ := HO302.out; exact TR))) (Kd.R_lt (by have X_ := HO307.out; exact TR))) (Kd.R_lt (by have X_ := HO311.out; exact TR))) (below_size TB))
                  have n5_ := aM (blk_below (g := gb299) (o := .cells #[.slice Ao11 t296.length co11] 26 (0, 0)) TK hb)
                  have n6_ := aM (blk_below (g := gb304) (o := .cells #[.slice Ao15 t300.length co15] 26 (0, 0)) TK hb)
                  have n7_ := aM (blk_below (g := gb308) (o := .cells #[.slice Ao20 t305.length co20] 26 (0, 0)) TK hb)
                  have n8_ := aM (blk_below (g := gb314) (o := .cells #[.slice Ao26 t309.length co26] 26 (0, 0)) TK hb)
                  have n9_ := aM (below_step TB hb)
                  clear HO298
                  clear HO302
                  clear HO307
                  clear HO311
                  clear BK299
                  clear BK304
                  clear BK308
                  clear BK314
                  clear HB
                  have HO298 := n0_
                  have HO302 := n1_
                  have HO307 := n2_
                  have HO311 := n3_
                  have HO319 := n4_
                  have BK299 := n5_
                  have BK304 := n6_
                  have BK308 := n7_
                  have BK314 := n8_
                  have HB := n9_
                  clear n0_ n1_ n2_ n3_ n4_ n5_ n6_ n7_ n8_ n9_
                  (try clear hb)
                  (try clear hb2)
                  (try clear hk)
                  (try clear hi)
                  (try clear ho0)
                  refine hK.out _ _ ⟨(blk_cell BK308.out 0).trans rfl, (blk_cell BK304.out 0).trans rfl, (blk_cell BK314.out 0).trans rfl, (blk_cell BK299.out 0).trans rfl⟩ (fun hHeld => ?_)
                  clear hK K
                  refine nR ?_
                  refine pO 11 (some 41) (fun K hK => ?_)
                  refine gG Try.func13 #[.agg #[.slice Ao15 t300.length co15], .int .i64 t303] ?_
                  with_reducible refine (spec_PathUp.calls k _ _ t300 t303 t320 _ ?side1 ?side2 A35.out).mono ?_
                  (case side1 => have X_ := (Kd.R_reads' HO302.out).2.2; exact TC)
                  (case side2 => exact (Kd.R_reads' HO302.out).2.1)
                  rintro e w58 ⟨v321, rfl, ho0, hb⟩
                  refine ⟨_, rfl, ?_⟩
                  have n0_ := aM (Kd.R_elder' (by have X_ := HO298.out; exact TR) (Kd.R_base ho0) hb)
                  have n1_ := aM (Kd.R_elder' (by have X_ := HO302.out; exact TR) (Kd.R_base ho0) hb)
                  have n2_ := aM (Kd.R_elder' (by have X_ := HO307.out; exact TR) (Kd.R_base ho0) hb)
                  have n3_ := aM (Kd.R_elder' (by have X_ := HO311.out; exact TR) (Kd.R_base ho0) hb)
                  have n4_ := aM (Kd.R_elder' (by have X_ := HO319.out; exact TR) (Kd.R_base ho0) hb)
                  have n5_ := aM (Kd.R_lower (Kd.R_new' (Kd.R_new' (Kd.R_new' (Kd.R_new' (Kd.R_new' ho0 (Kd.R_lt (by have X_ := HO298.out; exact TR))) (Kd.R_lt (by have X_ := HO302.out; exact TR))) (Kd.R_lt (by have X_ := HO307.out; exact TR))) (Kd.R_lt (by have X_ := HO311.out; exact TR))) (Kd.R_lt (by have X_ := HO319.out; exact TR))) (below_size TB))
                  have n6_ := aM (blk_below (g := gb299) (o := .cells #[.slice Ao11 t296.length co11] 26 (0, 0)) TK hb)
                  have n7_ := aM (blk_below (g := gb304) (o := .cells #[.slice Ao15 t300.length co15] 26 (0, 0)) TK hb)
                  have n8_ := aM (blk_below (g := gb308) (o := .cells #[.slice Ao20 t305.length co20] 26 (0, 0)) TK hb)
                  have n9_ := aM (blk_below (g := gb314) (o := .cells #[.slice Ao26 t309.length co26] 26 (0, 0)) TK hb)
                  have n10_ := aM (below_step TB hb)
                  clear HO298
                  clear HO302
                  clear HO307
                  clear HO311
                  clear HO319
                  clear BK299
                  clear BK304
                  clear BK308
                  clear BK314
                  clear HB
                  have HO298 := n0_
                  have HO302 := n1_
                  have HO307 := n2_
                  have HO311 := n3_
                  have HO319 := n4_
                  have HO322 := n5_
                  have BK299 := n6_
                  have BK304 := n7_
                  have BK308 := n8_
                  have BK314 := n9_
                  have HB := n10_
                  clear n0_ n1_ n2_ n3_ n4_ n5_ n6_ n7_ n8_ n9_ n10_
                  (try clear hb)
                  (try clear hb2)
                  (try clear hk)
                  (try clear hi)
                  (try clear ho0)
                  obtain ⟨Ao59, co59, eo59⟩ := Kd.R_slice HO319.out
                  (first | subst eo59 | (injection eo59 with f1_ f2_ f3_; have f4_ := f1_.symm; have f5_ := f3_.symm; clear f1_ f2_ f3_; subst f4_; subst f5_))
                  obtain ⟨Ao60, co60, eo60⟩ := Kd.R_slice HO322.out
                  (first | subst eo60 | (injection eo60 with f1_ f2_ f3_; have f4_ := f1_.symm; have f5_ := f3_.symm; clear f1_ f2_ f3_; subst f4_; subst f5_))
                  refine hK.out _ _ ⟨(blk_cell BK308.out 0).trans rfl, (blk_cell BK304.out 0).trans rfl, (blk_cell BK314.out 0).trans rfl, (blk_cell BK299.out 0).trans rfl⟩ (fun hHeld => ?_)
                  clear hK K
                  refine nR ?_
                  refine pO 12 (some 42) (fun K hK => ?_)
                  refine gG Try.func11 #[.slice Ao59 t317.length co59, .slice Ao60 t320.length co60] ?_
                  with_reducible refine (laws_sameInts.calls k _ _ t317 _ _ t320 true _ ?side1 ?side2 ?side3 ?side4 A36.out).mono ?_
                  (case side1 => have X_ := (Kd.R_reads' HO319.out).2.2; exact TC)
                  (case side2 => exact (Kd.R_reads' HO319.out).2.1)
                  (case side3 => have X_ := (Kd.R_reads' HO322.out).2.2; exact TC)
                  (case side4 => exact (Kd.R_reads' HO322.out).2.1)
                  rintro e w' ⟨rfl, ⟨nd, rfl⟩⟩
                  refine ⟨_, rfl, ?_⟩
                  refine hK.out _ _ ⟨(blk_cell BK308.out 0).trans rfl, (blk_cell BK304.out 0).trans rfl, (blk_cell BK314.out 0).trans rfl, (blk_cell BK299.out 0).trans rfl⟩ (fun hHeld => ?_)
                  clear hK K
                  refine nR ?_
                  refine pP 13 (some 43) ?_
                  refine pP 14 (some 44) ?_
                  refine pP 15 (some 45) ?_
                  refine pP 17 (some 47) ?_
                  refine pP 20 (some 50) ?_
                  refine pT 16 (some 46) ?_
                  refine pT 19 (some 49) ?_
                  refine pO 18 (some 48) (fun K hK => ?_)
                  refine gG Try.func14 #[.agg #[.slice Ao15 t300.length co15], .int .i64 t303] ?_
                  with_reducible refine (impl_BelowOf.calls k _ _ t300 t303 t324 _ ?side1 ?side2 A38.out).mono ?_
                  (case side1 => have X_ := (Kd.R_reads' HO302.out).2.2; exact TC)
                  (case side2 => exact (Kd.R_reads' HO302.out).2.1)
                  rintro e w61 ⟨v325, rfl, ho0, hb⟩
                  refine ⟨_, rfl, ?_⟩
                  have n0_ := aM (Kd.R_elder' (by have X_ := HO298.out; exact TR) (Kd.R_base ho0) hb)
                  have n1_ := aM (Kd.R_elder' (by have X_ := HO302.out; exact TR) (Kd.R_base ho0) hb)
                  have n2_ := aM (Kd.R_elder' (by have X_ := HO307.out; exact TR) (Kd.R_base ho0) hb)
                  have n3_ := aM (Kd.R_elder' (by have X_ := HO311.out; exact TR) (Kd.R_base ho0) hb)
                  have n4_ := aM (Kd.R_elder' (by have X_ := HO319.out; exact TR) (Kd.R_base ho0) hb)
                  have n5_ := aM (Kd.R_elder' (by have X_ := HO322.out; exact TR) (Kd.R_base ho0) hb)
                  have n6_ := aM (Kd.R_lower (Kd.R_new' (Kd.R_new' (Kd.R_new' (Kd.R_new' (Kd.R_new' (Kd.R_new' ho0 (Kd.R_lt (by have X_ := HO298.out; exact TR))) (Kd.R_lt (by have X_ := HO302.out; exact TR))) (Kd.R_lt (by have X_ := HO307.out; exact TR))) (Kd.R_lt (by have X_ := HO311.out; exact TR))) (Kd.R_lt (by have X_ := HO319.out; exact TR))) (Kd.R_lt (by have X_ := HO322.out; exact TR))) (below_size TB))
                  have n7_ := aM (blk_below (g := gb299) (o := .cells #[.slice Ao11 t296.length co11] 26 (0, 0)) TK hb)
                  have n8_ := aM (blk_below (g := gb304) (o := .cells #[.slice Ao15 t300.length co15] 26 (0, 0)) TK hb)
                  have n9_ := aM (blk_below (g := gb308) (o := .cells #[.slice Ao20 t305.length co20] 26 (0, 0)) TK hb)
                  have n10_ := aM (blk_below (g := gb314) (o := .cells #[.slice Ao26 t309.length co26] 26 (0, 0)) TK hb)
                  have n11_ := aM (below_step TB hb)
                  clear HO298
                  clear HO302
                  clear HO307
                  clear HO311
                  clear HO319
                  clear HO322
                  clear BK299
                  clear BK304
                  clear BK308
                  clear BK314
                  clear HB
                  have HO298 := n0_
                  have HO302 := n1_
                  have HO307 := n2_
                  have HO311 := n3_
                  have HO319 := n4_
                  have HO322 := n5_
                  have HO326 := n6_
                  have BK299 := n7_
                  have BK304 := n8_
                  have BK308 := n9_
                  have BK314 := n10_
                  have HB := n11_
                  clear n0_ n1_ n2_ n3_ n4_ n5_ n6_ n7_ n8_ n9_ n10_ n11_
                  (try clear hb)
                  (try clear hb2)
                  (try clear hk)
                  (try clear hi)
                  (try clear ho0)
                  refine hK.out _ _ ⟨(blk_cell BK308.out 0).trans rfl, (blk_cell BK304.out 0).trans rfl, (blk_cell BK314.out 0).trans rfl, (blk_cell BK299.out 0).trans rfl⟩ (fun hHeld => ?_)
                  clear hK K
                  refine nR ?_
                  refine pO 21 (some 51) (fun K hK => ?_)
                  refine gG Try.func15 #[.agg #[.slice Ao15 t300.length co15], .int .i64 t303] ?_
                  with_reducible refine (spec_BelowOf.calls k _ _ t300 t303 t327 _ ?side1 ?side2 A39.out).mono ?_
                  (case side1 => have X_ := (Kd.R_reads' HO302.out).2.2; exact TC)
                  (case side2 => exact (Kd.R_reads' HO302.out).2.1)
                  rintro e w62 ⟨v328, rfl, ho0, hb⟩
                  refine ⟨_, rfl, ?_⟩
                  have n0_ := aM (Kd.R_elder' (by have X_ := HO298.out; exact TR) (Kd.R_base ho0) hb)
                  have n1_ := aM (Kd.R_elder' (by have X_ := HO302.out; exact TR) (Kd.R_base ho0) hb)
                  have n2_ := aM (Kd.R_elder' (by have X_ := HO307.out; exact TR) (Kd.R_base ho0) hb)
                  have n3_ := aM (Kd.R_elder' (by have X_ := HO311.out; exact TR) (Kd.R_base ho0) hb)
                  have n4_ := aM (Kd.R_elder' (by have X_ := HO319.out; exact TR) (Kd.R_base ho0) hb)
                  have n5_ := aM (Kd.R_elder' (by have X_ := HO322.out; exact TR) (Kd.R_base ho0) hb)
                  have n6_ := aM (Kd.R_elder' (by have X_ := HO326.out; exact TR) (Kd.R_base ho0) hb)
                  have n7_ := aM (Kd.R_lower (Kd.R_new' (Kd.R_new' (Kd.R_new' (Kd.R_new' (Kd.R_new' (Kd.R_new' (Kd.R_new' ho0 (Kd.R_lt (by have X_ := HO298.out; exact TR))) (Kd.R_lt (by have X_ := HO302.out; exact TR))) (Kd.R_lt (by have X_ := HO307.out; exact TR))) (Kd.R_lt (by have X_ := HO311.out; exact TR))) (Kd.R_lt (by have X_ := HO319.out; exact TR))) (Kd.R_lt (by have X_ := HO322.out; exact TR))) (Kd.R_lt (by have X_ := HO326.out; exact TR))) (below_size TB))
                  have n8_ := aM (blk_below (g := gb299) (o := .cells #[.slice Ao11 t296.length co11] 26 (0, 0)) TK hb)
                  have n9_ := aM (blk_below (g := gb304) (o := .cells #[.slice Ao15 t300.length co15] 26 (0, 0)) TK hb)
                  have n10_ := aM (blk_below (g := gb308) (o := .cells #[.slice Ao20 t305.length co20] 26 (0, 0)) TK hb)
                  have n11_ := aM (blk_below (g := gb314) (o := .cells #[.slice Ao26 t309.length co26] 26 (0, 0)) TK hb)
                  have n12_ := aM (below_step TB hb)
                  clear HO298
                  clear HO302
                  clear HO307
                  clear HO311
                  clear HO319
                  clear HO322
                  clear HO326
                  clear BK299
                  clear BK304
                  clear BK308
                  clear BK314
                  clear HB
                  have HO298 := n0_
                  have HO302 := n1_
                  have HO307 := n2_
                  have HO311 := n3_
                  have HO319 := n4_
                  have HO322 := n5_
                  have HO326 := n6_
                  have HO329 := n7_
                  have BK299 := n8_
                  have BK304 := n9_
                  have BK308 := n10_
                  have BK314 := n11_
                  have HB := n12_
                  clear n0_ n1_ n2_ n3_ n4_ n5_ n6_ n7_ n8_ n9_ n10_ n11_ n12_
                  (try clear hb)
                  (try clear hb2)
                  (try clear hk)
                  (try clear hi)
                  (try clear ho0)
                  obtain ⟨Ao63, co63, eo63⟩ := Kd.R_slice HO326.out
                  (first | subst eo63 | (injection eo63 with f1_ f2_ f3_; have f4_ := f1_.symm; have f5_ := f3_.symm; clear f1_ f2_ f3_; subst f4_; subst f5_))
                  obtain ⟨Ao64, co64, eo64⟩ := Kd.R_slice HO329.out
                  (first | subst eo64 | (injection eo64 with f1_ f2_ f3_; have f4_ := f1_.symm; have f5_ := f3_.symm; clear f1_ f2_ f3_; subst f4_; subst f5_))
                  refine hK.out _ _ ⟨(blk_cell BK308.out 0).trans rfl, (blk_cell BK304.out 0).trans rfl, (blk_cell BK314.out 0).trans rfl, (blk_cell BK299.out 0).trans rfl⟩ (fun hHeld => ?_)
                  clear hK K
                  refine nR ?_
                  refine pO 22 (some 52) (fun K hK => ?_)
                  refine gG Try.func11 #[.slice Ao63 t324.length co63, .slice Ao64 t327.length co64] ?_
                  with_reducible refine (laws_sameInts.calls k _ _ t324 _ _ t327 true _ ?side1 ?side2 ?side3 ?side4 A40.out).mono ?_
                  (case side1 => have X_ := (Kd.R_reads' HO326.out).2.2; exact TC)
                  (case side2 => exact (Kd.R_reads' HO326.out).2.1)
                  (case side3 => have X_ := (Kd.R_reads' HO329.out).2.2; exact TC)
                  (case side4 => exact (Kd.R_reads' HO329.out).2.1)
                  rintro e w' ⟨rfl, ⟨nd, rfl⟩⟩
                  refine ⟨_, rfl, ?_⟩
                  refine hK.out _ _ ⟨(blk_cell BK308.out 0).trans rfl, (blk_cell BK304.out 0).trans rfl, (blk_cell BK314.out 0).trans rfl, (blk_cell BK299.out 0).trans rfl⟩ (fun hHeld => ?_)
                  clear hK K
                  refine nR ?_
                  refine pP 23 (some 53) ?_
                  refine pP 24 (some 54) ?_
                  refine pP 25 (some 55) ?_
                  refine pP 27 (some 57) ?_
                  refine pP 30 (some 60) ?_
                  refine pT 26 (some 56) ?_
                  refine pT 29 (some 59) ?_
                  refine pO 28 (some 58) (fun K hK => ?_)
                  refine gG Try.func16 #[.agg #[.slice Ao15 t300.length co15], .int .i64 t303] ?_
                  with_reducible refine (impl_KidsOf.calls k _ _ t300 t303 t331 _ ?side1 ?side2 A42.out).mono ?_
                  (case side1 => have X_ := (Kd.R_reads' HO302.out).2.2; exact TC)
                  (case side2 => exact (Kd.R_reads' HO302.out).2.1)
                  rintro e w65 ⟨v332, rfl, ho0, hb⟩
                  refine ⟨_, rfl, ?_⟩
                  have n0_ := aM (Kd.R_elder' (by have X_ := HO298.out; exact TR) (Kd.R_base ho0) hb)
                  have n1_ := aM (Kd.R_elder' (by have X_ := HO302.out; exact TR) (Kd.R_base ho0) hb)
                  have n2_ := aM (Kd.R_elder' (by have X_ := HO307.out; exact TR) (Kd.R_base ho0) hb)
                  have n3_ := aM (Kd.R_elder' (by have X_ := HO311.out; exact TR) (Kd.R_base ho0) hb)
                  have n4_ := aM (Kd.R_elder' (by have X_ := HO319.out; exact TR) (Kd.R_base ho0) hb)
                  have n5_ := aM (Kd.R_elder' (by have X_ := HO322.out; exact TR) (Kd.R_base ho0) hb)
                  have n6_ := aM (Kd.R_elder' (by have X_ := HO326.out; exact TR) (Kd.R_base ho0) hb)
                  have n7_ := aM (Kd.R_elder' (by have X_ := HO329.out; exact TR) (Kd.R_base ho0) hb)
                  have n8_ := aM (Kd.R_lower (Kd.R_new' (Kd.R_new' (Kd.R_new' (Kd.R_new' (Kd.R_new' (Kd.R_new' (Kd.R_new' (Kd.R_new' ho0 (Kd.R_lt (by have X_ := HO298.out; exact TR))) (Kd.R_lt (by have X_ := HO302.out; exact TR))) (Kd.R_lt (by have X_ := HO307.out; exact TR))) (Kd.R_lt (by have X_ := HO311.out; exact TR))) (Kd.R_lt (by have X_ := HO319.out; exact TR))) (Kd.R_lt (by have X_ := HO322.out; exact TR))) (Kd.R_lt (by have X_ := HO326.out; exact TR))) (Kd.R_lt (by have X_ := HO329.out; exact TR))) (below_size TB))
                  have n9_ := aM (blk_below (g := gb299) (o := .cells #[.slice Ao11 t296.length co11] 26 (0, 0)) TK hb)
                  have n10_ := aM (blk_below (g := gb304) (o := .cells #[.slice Ao15 t300.length co15] 26 (0, 0)) TK hb)
                  have n11_ := aM (blk_below (g := gb308) (o := .cells #[.slice Ao20 t305.length co20] 26 (0, 0)) TK hb)
                  have n12_ := aM (blk_below (g := gb314) (o := .cells #[.slice Ao26 t309.length co26] 26 (0, 0)) TK hb)
                  have n13_ := aM (below_step TB hb)
                  clear HO298
                  clear HO302
                  clear HO307
                  clear HO311
                  clear HO319
                  clear HO322
                  clear HO326
                  clear HO329
                  clear BK299
                  clear BK304
                  clear BK308
                  clear BK314
                  clear HB
                  have HO298 := n0_
                  have HO302 := n1_
                  have HO307 := n2_
                  have HO311 := n3_
                  have HO319 := n4_
                  have HO322 := n5_
                  have HO326 := n6_
                  have HO329 := n7_
                  have HO333 := n8_
                  have BK299 := n9_
                  have BK304 := n10_
                  have BK308 := n11_
                  have BK314 := n12_
                  have HB := n13_
                  clear n0_ n1_ n2_ n3_ n4_ n5_ n6_ n7_ n8_ n9_ n10_ n11_ n12_ n13_
                  (try clear hb)
                  (try clear hb2)
                  (try clear hk)
                  (try clear hi)
                  (try clear ho0)
                  refine hK.out _ _ ⟨(blk_cell BK308.out 0).trans rfl, (blk_cell BK304.out 0).trans rfl, (blk_cell BK314.out 0).trans rfl, (blk_cell BK299.out 0).trans rfl⟩ (fun hHeld => ?_)
                  clear hK K
                  refine nR ?_
                  refine pO 31 (some 61) (fun K hK => ?_)
                  refine gG Try.func17 #[.agg #[.slice Ao15 t300.length co15], .int .i64 t303] ?_
                  with_reducible refine (spec_KidsOf.calls k _ _ t300 t303 t334 _ ?side1 ?side2 A43.out).mono ?_
                  (case side1 => have X_ := (Kd.R_reads' HO302.out).2.2; exact TC)
                  (case side2 => exact (Kd.R_reads' HO302.out).2.1)
                  rintro e w66 ⟨v335, rfl, ho0, hb⟩
                  refine ⟨_, rfl, ?_⟩
                  have n0_ := aM (Kd.R_elder' (by have X_ := HO298.out; exact TR) (Kd.R_base ho0) hb)
                  have n1_ := aM (Kd.R_elder' (by have X_ := HO302.out; exact TR) (Kd.R_base ho0) hb)
                  have n2_ := aM (Kd.R_elder' (by have X_ := HO307.out; exact TR) (Kd.R_base ho0) hb)
                  have n3_ := aM (Kd.R_elder' (by have X_ := HO311.out; exact TR) (Kd.R_base ho0) hb)
                  have n4_ := aM (Kd.R_elder' (by have X_ := HO319.out; exact TR) (Kd.R_base ho0) hb)
                  have n5_ := aM (Kd.R_elder' (by have X_ := HO322.out; exact TR) (Kd.R_base ho0) hb)
                  have n6_ := aM (Kd.R_elder' (by have X_ := HO326.out; exact TR) (Kd.R_base ho0) hb)
                  have n7_ := aM (Kd.R_elder' (by have X_ := HO329.out; exact TR) (Kd.R_base ho0) hb)
                  have n8_ := aM (Kd.R_elder' (by have X_ := HO333.out; exact TR) (Kd.R_base ho0) hb)
                  have n9_ := aM (Kd.R_lower (Kd.R_new' (Kd.R_new' (Kd.R_new' (Kd.R_new' (Kd.R_new' (Kd.R_new' (Kd.R_new' (Kd.R_new' (Kd.R_new' ho0 (Kd.R_lt (by have X_ := HO298.out; exact TR))) (Kd.R_lt (by have X_ := HO302.out; exact TR))) (Kd.R_lt (by have X_ := HO307.out; exact TR))) (Kd.R_lt (by have X_ := HO311.out; exact TR))) (Kd.R_lt (by have X_ := HO319.out; exact TR))) (Kd.R_lt (by have X_ := HO322.out; exact TR))) (Kd.R_lt (by have X_ := HO326.out; exact TR))) (Kd.R_lt (by have X_ := HO329.out; exact TR))) (Kd.R_lt (by have X_ := HO333.out; exact TR))) (below_size TB))
                  have n10_ := aM (blk_below (g := gb299) (o := .cells #[.slice Ao11 t296.length co11] 26 (0, 0)) TK hb)
                  have n11_ := aM (blk_below (g := gb304) (o := .cells #[.slice Ao15 t300.length co15] 26 (0, 0)) TK hb)
                  have n12_ := aM (blk_below (g := gb308) (o := .cells #[.slice Ao20 t305.length co20] 26 (0, 0)) TK hb)
                  have n13_ := aM (blk_below (g := gb314) (o := .cells #[.slice Ao26 t309.length co26] 26 (0, 0)) TK hb)
                  have n14_ := aM (below_step TB hb)
                  clear HO298
                  clear HO302
                  clear HO307
                  clear HO311
                  clear HO319
                  clear HO322
                  clear HO326
                  clear HO329
                  clear HO333
                  clear BK299
                  clear BK304
                  clear BK308
                  clear BK314
                  clear HB
                  have HO298 := n0_
                  have HO302 := n1_
                  have HO307 := n2_
                  have HO311 := n3_
                  have HO319 := n4_
                  have HO322 := n5_
                  have HO326 := n6_
                  have HO329 := n7_
                  have HO333 := n8_
                  have HO336 := n9_
                  have BK299 := n10_
                  have BK304 := n11_
                  have BK308 := n12_
                  have BK314 := n13_
                  have HB := n14_
                  clear n0_ n1_ n2_ n3_ n4_ n5_ n6_ n7_ n8_ n9_ n10_ n11_ n12_ n13_ n14_
                  (try clear hb)
                  (try clear hb2)
                  (try clear hk)
                  (try clear hi)
                  (try clear ho0)
                  obtain ⟨Ao67, co67, eo67⟩ := Kd.R_slice HO333.out
                  (first | subst eo67 | (injection eo67 with f1_ f2_ f3_; have f4_ := f1_.symm; have f5_ := f3_.symm; clear f1_ f2_ f3_; subst f4_; subst f5_))
                  obtain ⟨Ao68, co68, eo68⟩ := Kd.R_slice HO336.out
                  (first | subst eo68 | (injection eo68 with f1_ f2_ f3_; have f4_ := f1_.symm; have f5_ := f3_.symm; clear f1_ f2_ f3_; subst f4_; subst f5_))
                  refine hK.out _ _ ⟨(blk_cell BK308.out 0).trans rfl, (blk_cell BK304.out 0).trans rfl, (blk_cell BK314.out 0).trans rfl, (blk_cell BK299.out 0).trans rfl⟩ (fun hHeld => ?_)
                  clear hK K
                  refine nR ?_
                  refine pO 32 (some 62) (fun K hK => ?_)
                  refine gG Try.func11 #[.slice Ao67 t331.length co67, .slice Ao68 t334.length co68] ?_
                  with_reducible refine (laws_sameInts.calls k _ _ t331 _ _ t334 true _ ?side1 ?side2 ?side3 ?side4 A44.out).mono ?_
                  (case side1 => have X_ := (Kd.R_reads' HO333.out).2.2; exact TC)
                  (case side2 => exact (Kd.R_reads' HO333.out).2.1)
                  (case side3 => have X_ := (Kd.R_reads' HO336.out).2.2; exact TC)
                  (case side4 => exact (Kd.R_reads' HO336.out).2.1)
                  rintro e w' ⟨rfl, ⟨nd, rfl⟩⟩
                  refine ⟨_, rfl, ?_⟩
                  refine hK.out _ _ ⟨(blk_cell BK308.out 0).trans rfl, (blk_cell BK304.out 0).trans rfl, (blk_cell BK314.out 0).trans rfl, (blk_cell BK299.out 0).trans rfl⟩ (fun hHeld => ?_)
                  clear hK K
                  refine nR ?_
                  refine pP 33 (some 63) ?_
                  refine pP 34 (some 64) ?_
                  refine pP 35 (some 65) ?_
                  refine pP 37 (some 67) ?_
                  refine pP 40 (some 70) ?_
                  refine pT 36 (some 66) ?_
                  refine pT 39 (some 69) ?_
                  refine pO 38 (some 68) (fun K hK => ?_)
                  refine gG Try.func18 #[.agg #[.slice Ao15 t300.length co15], .int .i64 t303] ?_
                  with_reducible refine (impl_DeepOf.calls k _ _ t300 t303 t338 _ ?side1 ?side2 A46.out).mono ?_
                  (case side1 => have X_ := (Kd.R_reads' HO302.out).2.2; exact TC)
                  (case side2 => exact (Kd.R_reads' HO302.out).2.1)
                  rintro e w69 ⟨rfl, hb⟩
                  refine ⟨_, rfl, ?_⟩
                  have n0_ := aM (Kd.R_below (by have X_ := HO298.out; exact TR) hb)
                  have n1_ := aM (Kd.R_below (by have X_ := HO302.out; exact TR) hb)
                  have n2_ := aM (Kd.R_below (by have X_ := HO307.out; exact TR) hb)
                  have n3_ := aM (Kd.R_below (by have X_ := HO311.out; exact TR) hb)
                  have n4_ := aM (Kd.R_below (by have X_ := HO319.out; exact TR) hb)
                  have n5_ := aM (Kd.R_below (by have X_ := HO322.out; exact TR) hb)
                  have n6_ := aM (Kd.R_below (by have X_ := HO326.out; exact TR) hb)
                  have n7_ := aM (Kd.R_below (by have X_ := HO329.out; exact TR) hb)
                  have n8_ := aM (Kd.R_below (by have X_ := HO333.out; exact TR) hb)
                  have n9_ := aM (Kd.R_below (by have X_ := HO336.out; exact TR) hb)
                  have n10_ := aM (blk_below (g := gb299) (o := .cells #[.slice Ao11 t296.length co11] 26 (0, 0)) TK hb)
                  have n11_ := aM (blk_below (g := gb304) (o := .cells #[.slice Ao15 t300.length co15] 26 (0, 0)) TK hb)
                  have n12_ := aM (blk_below (g := gb308) (o := .cells #[.slice Ao20 t305.length co20] 26 (0, 0)) TK hb)
                  have n13_ := aM (blk_below (g := gb314) (o := .cells #[.slice Ao26 t309.length co26] 26 (0, 0)) TK hb)
                  have n14_ := aM (below_step TB hb)
                  clear HO298
                  clear HO302
                  clear HO307
                  clear HO311
                  clear HO319
                  clear HO322
                  clear HO326
                  clear HO329
                  clear HO333
                  clear HO336
                  clear BK299
                  clear BK304
                  clear BK308
                  clear BK314
                  clear HB
                  have HO298 := n0_
                  have HO302 := n1_
                  have HO307 := n2_
                  have HO311 := n3_
                  have HO319 := n4_
                  have HO322 := n5_
                  have HO326 := n6_
                  have HO329 := n7_
                  have HO333 := n8_
                  have HO336 := n9_
                  have BK299 := n10_
                  have BK304 := n11_
                  have BK308 := n12_
                  have BK314 := n13_
                  have HB := n14_
                  clear n0_ n1_ n2_ n3_ n4_ n5_ n6_ n7_ n8_ n9_ n10_ n11_ n12_ n13_ n14_
                  (try clear hb)
                  (try clear hb2)
                  (try clear hk)
                  (try clear hi)
                  refine hK.out _ _ ⟨(blk_cell BK308.out 0).trans rfl, (blk_cell BK304.out 0).trans rfl, (blk_cell BK314.out 0).trans rfl, (blk_cell BK299.out 0).trans rfl⟩ (fun hHeld => ?_)
                  clear hK K
                  refine nR ?_
                  refine pO 41 (some 71) (fun K hK => ?_)
                  refine gG Try.func19 #[.agg #[.slice Ao15 t300.length co15], .int .i64 t303] ?_
                  with_reducible refine (spec_DeepOf.calls k _ _ t300 t303 t339 _ ?side1 ?side2 A47.out).mono ?_
                  (case side1 => have X_ := (Kd.R_reads' HO302.out).2.2; exact TC)
                  (case side2 => exact (Kd.R_reads' HO302.out).2.1)
                  rintro e w70 ⟨rfl, hb⟩
                  refine ⟨_, rfl, ?_⟩
                  have n0_ := aM (Kd.R_below (by have X_ := HO298.out; exact TR) hb)
                  have n1_ := aM (Kd.R_below (by have X_ := HO302.out; exact TR) hb)
                  have n2_ := aM (Kd.R_below (by have X_ := HO307.out; exact TR) hb)
                  have n3_ := aM (Kd.R_below (by have X_ := HO311.out; exact TR) hb)
                  have n4_ := aM (Kd.R_below (by have X_ := HO319.out; exact TR) hb)
                  have n5_ := aM (Kd.R_below (by have X_ := HO322.out; exact TR) hb)
                  have n6_ := aM (Kd.R_below (by have X_ := HO326.out; exact TR) hb)
                  have n7_ := aM (Kd.R_below (by have X_ := HO329.out; exact TR) hb)
                  have n8_ := aM (Kd.R_below (by have X_ := HO333.out; exact TR) hb)
                  have n9_ := aM (Kd.R_below (by have X_ := HO336.out; exact TR) hb)
                  have n10_ := aM (blk_below (g := gb299) (o := .cells #[.slice Ao11 t296.length co11] 26 (0, 0)) TK hb)
                  have n11_ := aM (blk_below (g := gb304) (o := .cells #[.slice Ao15 t300.length co15] 26 (0, 0)) TK hb)
                  have n12_ := aM (blk_below (g := gb308) (o := .cells #[.slice Ao20 t305.length co20] 26 (0, 0)) TK hb)
                  have n13_ := aM (blk_below (g := gb314) (o := .cells #[.slice Ao26 t309.length co26] 26 (0, 0)) TK hb)
                  have n14_ := aM (below_step TB hb)
                  clear HO298
                  clear HO302
                  clear HO307
                  clear HO311
                  clear HO319
                  clear HO322
                  clear HO326
                  clear HO329
                  clear HO333
                  clear HO336
                  clear BK299
                  clear BK304
                  clear BK308
                  clear BK314
                  clear HB
                  have HO298 := n0_
                  have HO302 := n1_
                  have HO307 := n2_
                  have HO311 := n3_
                  have HO319 := n4_
                  have HO322 := n5_
                  have HO326 := n6_
                  have HO329 := n7_
                  have HO333 := n8_
                  have HO336 := n9_
                  have BK299 := n10_
                  have BK304 := n11_
                  have BK308 := n12_
                  have BK314 := n13_
                  have HB := n14_
                  clear n0_ n1_ n2_ n3_ n4_ n5_ n6_ n7_ n8_ n9_ n10_ n11_ n12_ n13_ n14_
                  (try clear hb)
                  (try clear hb2)
                  (try clear hk)
                  (try clear hi)
                  refine hK.out _ _ ⟨(blk_cell BK308.out 0).trans rfl, (blk_cell BK304.out 0).trans rfl, (blk_cell BK314.out 0).trans rfl, (blk_cell BK299.out 0).trans rfl⟩ (fun hHeld => ?_)
                  clear hK K
                  refine nR ?_
                  refine pP 42 (some 72) ?_
                  refine pP 43 (some 73) ?_
                  refine pP 44 (some 74) ?_
                  refine pP 46 (some 76) ?_
                  refine pP 47 (some 77) ?_
                  refine pP 50 (some 80) ?_
                  refine pP 51 (some 81) ?_
                  refine pT 45 (some 75) ?_
                  refine pT 49 (some 79) ?_
                  refine pO 48 (some 78) (fun K hK => ?_)
                  refine gG Try.func20 #[.agg #[.slice Ao26 t309.length co26], .int .i64 t312, .int .i64 t313] ?_
                  with_reducible refine (impl_Ancestor.calls k _ _ t309 t312 t313 t340 _ ?side1 ?side2 A49.out).mono ?_
                  (case side1 => have X_ := (Kd.R_reads' HO311.out).2.2; exact TC)
                  (case side2 => exact (Kd.R_reads' HO311.out).2.1)
                  rintro e w71 ⟨rfl, hb⟩
                  refine ⟨_, rfl, ?_⟩
                  have n0_ := aM (Kd.R_below (by have X_ := HO298.out; exact TR) hb)
                  have n1_ := aM (Kd.R_below (by have X_ := HO302.out; exact TR) hb)
                  have n2_ := aM (Kd.R_below (by have X_ := HO307.out; exact TR) hb)
                  have n3_ := aM (Kd.R_below (by have X_ := HO311.out; exact TR) hb)
                  have n4_ := aM (Kd.R_below (by have X_ := HO319.out; exact TR) hb)
                  have n5_ := aM (Kd.R_below (by have X_ := HO322.out; exact TR) hb)
                  have n6_ := aM (Kd.R_below (by have X_ := HO326.out; exact TR) hb)
                  have n7_ := aM (Kd.R_below (by have X_ := HO329.out; exact TR) hb)
                  have n8_ := aM (Kd.R_below (by have X_ := HO333.out; exact TR) hb)
                  have n9_ := aM (Kd.R_below (by have X_ := HO336.out; exact TR) hb)
                  have n10_ := aM (blk_below (g := gb299) (o := .cells #[.slice Ao11 t296.length co11] 26 (0, 0)) TK hb)
                  have n11_ := aM (blk_below (g := gb304) (o := .cells #[.slice Ao15 t300.length co15] 26 (0, 0)) TK hb)
                  have n12_ := aM (blk_below (g := gb308) (o := .cells #[.slice Ao20 t305.length co20] 26 (0, 0)) TK hb)
                  have n13_ := aM (blk_below (g := gb314) (o := .cells #[.slice Ao26 t309.length co26] 26 (0, 0)) TK hb)
                  have n14_ := aM (below_step TB hb)
                  clear HO298
                  clear HO302
                  clear HO307
                  clear HO311
                  clear HO319
                  clear HO322
                  clear HO326
                  clear HO329
                  clear HO333
                  clear HO336
                  clear BK299
                  clear BK304
                  clear BK308
                  clear BK314
                  clear HB
                  have HO298 := n0_
                  have HO302 := n1_
                  have HO307 := n2_
                  have HO311 := n3_
                  have HO319 := n4_
                  have HO322 := n5_
                  have HO326 := n6_
                  have HO329 := n7_
                  have HO333 := n8_
                  have HO336 := n9_
                  have BK299 := n10_
                  have BK304 := n11_
                  have BK308 := n12_
                  have BK314 := n13_
                  have HB := n14_
                  clear n0_ n1_ n2_ n3_ n4_ n5_ n6_ n7_ n8_ n9_ n10_ n11_ n12_ n13_ n14_
                  (try clear hb)
                  (try clear hb2)
                  (try clear hk)
                  (try clear hi)
                  refine hK.out _ _ ⟨(blk_cell BK308.out 0).trans rfl, (blk_cell BK304.out 0).trans rfl, (blk_cell BK314.out 0).trans rfl, (blk_cell BK299.out 0).trans rfl⟩ (fun hHeld => ?_)
                  clear hK K
                  refine nR ?_
                  refine pO 52 (some 82) (fun K hK => ?_)
                  refine gG Try.func21 #[.agg #[.slice Ao26 t309.length co26], .int .i64 t312, .int .i64 t313] ?_
                  with_reducible refine (spec_Ancestor.calls k _ _ t309 t312 t313 t341 _ ?side1 ?side2 A50.out).mono ?_
                  (case side1 => have X_ := (Kd.R_reads' HO311.out).2.2; exact TC)
                  (case side2 => exact (Kd.R_reads' HO311.out).2.1)
                  rintro e w72 ⟨rfl, hb⟩
                  refine ⟨_, rfl, ?_⟩
                  have n0_ := aM (Kd.R_below (by have X_ := HO298.out; exact TR) hb)
                  have n1_ := aM (Kd.R_below (by have X_ := HO302.out; exact TR) hb)
                  have n2_ := aM (Kd.R_below (by have X_ := HO307.out; exact TR) hb)
                  have n3_ := aM (Kd.R_below (by have X_ := HO311.out; exact TR) hb)
                  have n4_ := aM (Kd.R_below (by have X_ := HO319.out; exact TR) hb)
                  have n5_ := aM (Kd.R_below (by have X_ := HO322.out; exact TR) hb)
                  have n6_ := aM (Kd.R_below (by have X_ := HO326.out; exact TR) hb)
                  have n7_ := aM (Kd.R_below (by have X_ := HO329.out; exact TR) hb)
                  have n8_ := aM (Kd.R_below (by have X_ := HO333.out; exact TR) hb)
                  have n9_ := aM (Kd.R_below (by have X_ := HO336.out; exact TR) hb)
                  have n10_ := aM (blk_below (g := gb299) (o := .cells #[.slice Ao11 t296.length co11] 26 (0, 0)) TK hb)
                  have n11_ := aM (blk_below (g := gb304) (o := .cells #[.slice Ao15 t300.length co15] 26 (0, 0)) TK hb)
                  have n12_ := aM (blk_below (g := gb308) (o := .cells #[.slice Ao20 t305.length co20] 26 (0, 0)) TK hb)
                  have n13_ := aM (blk_below (g := gb314) (o := .cells #[.slice Ao26 t309.length co26] 26 (0, 0)) TK hb)
                  have n14_ := aM (below_step TB hb)
                  clear HO298
                  clear HO302
                  clear HO307
                  clear HO311
                  clear HO319
                  clear HO322
                  clear HO326
                  clear HO329
                  clear HO333
                  clear HO336
                  clear BK299
                  clear BK304
                  clear BK308
                  clear BK314
                  clear HB
                  have HO298 := n0_
                  have HO302 := n1_
                  have HO307 := n2_
                  have HO311 := n3_
                  have HO319 := n4_
                  have HO322 := n5_
                  have HO326 := n6_
                  have HO329 := n7_
                  have HO333 := n8_
                  have HO336 := n9_
                  have BK299 := n10_
                  have BK304 := n11_
                  have BK308 := n12_
                  have BK314 := n13_
                  have HB := n14_
                  clear n0_ n1_ n2_ n3_ n4_ n5_ n6_ n7_ n8_ n9_ n10_ n11_ n12_ n13_ n14_
                  (try clear hb)
                  (try clear hb2)
                  (try clear hk)
                  (try clear hi)
                  refine hK.out _ _ ⟨(blk_cell BK308.out 0).trans rfl, (blk_cell BK304.out 0).trans rfl, (blk_cell BK314.out 0).trans rfl, (blk_cell BK299.out 0).trans rfl⟩ (fun hHeld => ?_)
                  clear hK K
                  refine nR ?_
                  refine pP 53 (some 83) ?_
                  refine pP 54 (some 84) ?_
                  refine pP 55 (some 85) ?_
                  refine pT 56 (some 86) ?_
                  refine pO 57 (some 87) (fun K hK => ?_)
                  refine gG Try.func9 #[.agg #[.slice Ao11 t296.length co11]] ?_
                  with_reducible refine (impl_TreeOk.calls k _ _ t296 t342 _ ?side1 ?side2 A52.out).mono ?_
                  (case side1 => have X_ := (Kd.R_reads' HO298.out).2.2; exact TC)
                  (case side2 => exact (Kd.R_reads' HO298.out).2.1)
                  rintro e w73 ⟨rfl, hb⟩
                  refine ⟨_, rfl, ?_⟩
                  have n0_ := aM (Kd.R_below (by have X_ := HO298.out; exact TR) hb)
                  have n1_ := aM (Kd.R_below (by have X_ := HO302.out; exact TR) hb)
                  have n2_ := aM (Kd.R_below (by have X_ := HO307.out; exact TR) hb)
                  have n3_ := aM (Kd.R_below (by have X_ := HO311.out; exact TR) hb)
                  have n4_ := aM (Kd.R_below (by have X_ := HO319.out; exact TR) hb)
                  have n5_ := aM (Kd.R_below (by have X_ := HO322.out; exact TR) hb)
                  have n6_ := aM (Kd.R_below (by have X_ := HO326.out; exact TR) hb)
                  have n7_ := aM (Kd.R_below (by have X_ := HO329.out; exact TR) hb)
                  have n8_ := aM (Kd.R_below (by have X_ := HO333.out; exact TR) hb)
                  have n9_ := aM (Kd.R_below (by have X_ := HO336.out; exact TR) hb)
                  have n10_ := aM (blk_below (g := gb299) (o := .cells #[.slice Ao11 t296.length co11] 26 (0, 0)) TK hb)
                  have n11_ := aM (blk_below (g := gb304) (o := .cells #[.slice Ao15 t300.length co15] 26 (0, 0)) TK hb)
                  have n12_ := aM (blk_below (g := gb308) (o := .cells #[.slice Ao20 t305.length co20] 26 (0, 0)) TK hb)
                  have n13_ := aM (blk_below (g := gb314) (o := .cells #[.slice Ao26 t309.length co26] 26 (0, 0)) TK hb)
                  have n14_ := aM (below_step TB hb)
                  clear HO298
                  clear HO302
                  clear HO307
                  clear HO311
                  clear HO319
                  clear HO322
                  clear HO326
                  clear HO329
                  clear HO333
                  clear HO336
                  clear BK299
                  clear BK304
                  clear BK308
                  clear BK314
                  clear HB
                  have HO298 := n0_
                  have HO302 := n1_
                  have HO307 := n2_
                  have HO311 := n3_
                  have HO319 := n4_
                  have HO322 := n5_
                  have HO326 := n6_
                  have HO329 := n7_
                  have HO333 := n8_
                  have HO336 := n9_
                  have BK299 := n10_
                  have BK304 := n11_
                  have BK308 := n12_
                  have BK314 := n13_
                  have HB := n14_
                  clear n0_ n1_ n2_ n3_ n4_ n5_ n6_ n7_ n8_ n9_ n10_ n11_ n12_ n13_ n14_
                  (try clear hb)
                  (try clear hb2)
                  (try clear hk)
                  (try clear hi)
                  refine hK.out _ _ ⟨(blk_cell BK308.out 0).trans rfl, (blk_cell BK304.out 0).trans rfl, (blk_cell BK314.out 0).trans rfl, (blk_cell BK299.out 0).trans rfl⟩ (fun hHeld => ?_)
                  clear hK K
                  refine nR ?_
                  refine pP 58 (some 88) ?_
                  refine pP 59 (some 89) ?_
                  refine done_ (done_of HT_.out (by kernel_rfl)) ?_
                  try go_wp2
                  go_meet
                  case rel => exact ⟨_, (!t342), (by first | rfl | (simp; done) | (simp [*]; done)), H', ⟨by first | omega | exact Nat.le_refl _⟩, ⟨by (with_reducible repeat (first | apply Kd.R_alloc | apply Kd.R_drewN | apply Kd.R_drew)); exact Kd.R_mono HO298.out (fun _ hk => ⟨hk.1.1.1.1.1.1.1, ⟨hk.1.1.1.1.1.1.2.1, hk.1.1.1.1.1.1.2.2⟩⟩)⟩, ⟨by (with_reducible repeat (first | apply Kd.R_alloc | apply Kd.R_drewN | apply Kd.R_drew)); exact Kd.R_mono HO302.out (fun _ hk => ⟨hk.1.1.1.1.1.1.1, ⟨hk.1.1.1.1.1.1.2.1, hk.1.1.1.1.1.1.2.2⟩⟩)⟩, ⟨by (with_reducible repeat (first | apply Kd.R_alloc | apply Kd.R_drewN | apply Kd.R_drew)); exact Kd.R_mono HO307.out (fun _ hk => ⟨hk.1.1.1.1.1.1.1, ⟨hk.1.1.1.1.1.1.2.1, hk.1.1.1.1.1.1.2.2⟩⟩)⟩, ⟨by (with_reducible repeat (first | apply Kd.R_alloc | apply Kd.R_drewN | apply Kd.R_drew)); exact Kd.R_mono HO311.out (fun _ hk => ⟨hk.1.1.1.1.1.1.1, ⟨hk.1.1.1.1.1.1.2.1, hk.1.1.1.1.1.1.2.2⟩⟩)⟩, ⟨TK⟩, ⟨TK⟩, ⟨TK⟩, ⟨TK⟩, ⟨TB⟩⟩
              · rw [if_neg c48] at H
                have c48b0 : (t338 == t339) = false := beq_eq_false_iff_ne.mpr c48
                have c48b1 : (t338 != t339) = true := bne_iff_ne.mpr c48
                exact absurd H (by simp)
            · replace c45 := Bool.eq_false_iff.mpr c45
              subst c45
              replace H := ifF H
              exact absurd H (by simp)
          · replace c41 := Bool.eq_false_iff.mpr c41
            subst c41
            replace H := ifF H
            exact absurd H (by simp)
        · replace c37 := Bool.eq_false_iff.mpr c37
          subst c37
          replace H := ifF H
          exact absurd H (by simp)
    case rest =>
      clear HC8
      try clear c1
      try clear c2
      try clear p2
      try clear c3
      try clear c4
      try clear c9
      try clear c11
      try clear c18
      try clear c19
      try clear c20
      try clear c21
      try clear c37
      try clear c41
      try clear c45
      try clear c48
      try clear c48b0
      try clear c48b1
      obtain ⟨kq, x89_7, rfl, HA, HJ7, HO_300000, HO_305000, HO_309000, HO_315000, BK299, BK304, BK308, BK314, HB⟩ := hcut
      cases kq with
      | zero => exact absurd HA.out (by simp [laws_FnTrees.j0])
      | succ kj7 =>
        have H := HA.out
        clear HA
        simp only [laws_FnTrees.j0] at H
        replace H := ifM H
        obtain ⟨c74, H⟩ := H
        replace c74 := Bool.eq_false_iff.mpr c74
        subst c74
        have H' := aM H
        clear H
        go_wp2
        go_loopg [10] kj7 (fun kq v10 w' => ∃ (x10_2 : Int), v10 = .int .i64 x10_2 ∧ Aside0 (laws_FnTrees.l0 kq x10_2 t296 = some r) ∧ Aside0 (kq ≤ kj7) ∧ Aside0 (Kd.R (Kd.int .i64) 3 w' w.heap.size (fun k_ => some k_ ≠ ((.slice Ao15 t300.length co15) : Value).ownBlock ∧ some k_ ≠ ((.slice Ao20 t305.length co20) : Value).ownBlock ∧ some k_ ≠ ((.slice Ao26 t309.length co26) : Value).ownBlock) (.slice Ao11 t296.length co11) t296) ∧ Aside0 (Kd.R (Kd.int .i64) 3 w' w.heap.size (fun k_ => some k_ ≠ ((.slice Ao11 t296.length co11) : Value).ownBlock ∧ some k_ ≠ ((.slice Ao20 t305.length co20) : Value).ownBlock ∧ some k_ ≠ ((.slice Ao26 t309.length co26) : Value).ownBlock) (.slice Ao15 t300.length co15) t300) ∧ Aside0 (Kd.R (Kd.int .i64) 3 w' w.heap.size (fun k_ => some k_ ≠ ((.slice Ao11 t296.length co11) : Value).ownBlock ∧ some k_ ≠ ((.slice Ao15 t300.length co15) : Value).ownBlock ∧ some k_ ≠ ((.slice Ao26 t309.length co26) : Value).ownBlock) (.slice Ao20 t305.length co20) t305) ∧ Aside0 (Kd.R (Kd.int .i64) 3 w' w.heap.size (fun k_ => some k_ ≠ ((.slice Ao11 t296.length co11) : Value).ownBlock ∧ some k_ ≠ ((.slice Ao15 t300.length co15) : Value).ownBlock ∧ some k_ ≠ ((.slice Ao20 t305.length co20) : Value).ownBlock) (.slice Ao26 t309.length co26) t309) ∧ Aside0 (w'.heap[gb299]? = some (.cells #[(.slice Ao11 t296.length co11)] 26 (0, 0))) ∧ Aside0 (w'.heap[gb304]? = some (.cells #[(.slice Ao15 t300.length co15)] 26 (0, 0))) ∧ Aside0 (w'.heap[gb308]? = some (.cells #[(.slice Ao20 t305.length co20)] 26 (0, 0))) ∧ Aside0 (w'.heap[gb314]? = some (.cells #[(.slice Ao26 t309.length co26)] 26 (0, 0))) ∧ Aside0 (Below w.heap.size w w'))
        case atStart => exact ⟨(0), (by first | rfl | (simp; done) | (simp [*]; done)), H', ⟨Nat.le_refl _⟩, ⟨by have X_ := HO_300000.out; exact TR⟩, ⟨by have X_ := HO_305000.out; exact TR⟩, ⟨by have X_ := HO_309000.out; exact TR⟩, ⟨by have X_ := HO_315000.out; exact TR⟩, ⟨TK⟩, ⟨TK⟩, ⟨TK⟩, ⟨TK⟩, ⟨TB⟩⟩
        case round =>
          clear H'
          try clear c1
          try clear c2
          try clear p2
          try clear c3
          try clear c4
          try clear c7
          try clear c9
          try clear c11
          try clear c18
          try clear c19
          try clear c20
          try clear c21
          try clear c37
          try clear c41
          try clear c45
          try clear c48
          try clear c48b0
          try clear c48b1
          try clear c74
          try clear p2
          obtain ⟨x10_2, rfl, HA, HK2, HO_300000, HO_305000, HO_309000, HO_315000, BK299, BK304, BK308, BK314, HB⟩ := hrel
          cases gk with
          | zero => exact absurd HA.out (by simp [laws_FnTrees.l0])
          | succ k2 =>
            have H := HA.out
            clear HA
            simp only [laws_FnTrees.l0] at H
            by_cases c75 : x10_2 < (t296.length : Int)
            · rw [if_pos c75] at H
              have c75b0 : decide (x10_2 < (t296.length : Int)) = true := decide_eq_true c75
              clear c75
              replace H := bE H
              obtain ⟨t346, A76, H⟩ := H
              have HC77 := aM H
              clear H
              have hnb78 := NB299_304.out
              have hnc78 := NB304_299.out
              have hnb79 := NB299_308.out
              have hnc79 := NB308_299.out
              have hnb80 := NB299_314.out
              have hnc80 := NB314_299.out
              have hcz81_0 : wr.cell? ⟨gb299, 0, none⟩ = some (.slice Ao11 t296.length co11) := (blk_cell BK299.out 0).trans rfl
              have hfz81_0 := blk_frozen BK299.out 0
              go_upto_region 13 with (first | ((with_reducible refine gate_callee (f := 12) rfl ?_); refine gL (some 99) Try.func12 #[.agg #[.slice Ao11 t296.length co11], .int .i64 x10_2] ?_; (with_reducible refine (impl_PathUp.calls k2 _ _ t296 x10_2 t346 _ ?side1 ?side2 A76.out).mono ?_); (case side1 => have X_ := (Kd.R_reads' HO_300000.out).2.2; exact TC); (case side2 => exact (Kd.R_reads' HO_300000.out).2.1); rintro e w82 ⟨v347, rfl, ho0, hb⟩; refine ⟨_, rfl, ?_⟩; have HO348 := aM (Kd.R_lower (Kd.R_new' (Kd.R_new' (Kd.R_new' (Kd.R_new' ho0 (Kd.R_lt (by have X_ := HO_300000.out; exact TR))) (Kd.R_lt (by have X_ := HO_305000.out; exact TR))) (Kd.R_lt (by have X_ := HO_309000.out; exact TR))) (Kd.R_lt (by have X_ := HO_315000.out; exact TR))) (below_size TB)); replace HO_300000 := aM (Kd.R_elder' (by have X_ := HO_300000.out; exact TR) (Kd.R_base ho0) hb); replace HO_305000 := aM (Kd.R_elder' (by have X_ := HO_305000.out; exact TR) (Kd.R_base ho0) hb); replace HO_309000 := aM (Kd.R_elder' (by have X_ := HO_309000.out; exact TR) (Kd.R_base ho0) hb); replace HO_315000 := aM (Kd.R_elder' (by have X_ := HO_315000.out; exact TR) (Kd.R_base ho0) hb); replace BK299 := aM (blk_below (g := gb299) (o := .cells #[.slice Ao11 t296.length co11] 26 (0, 0)) TK hb); replace BK304 := aM (blk_below (g := gb304) (o := .cells #[.slice Ao15 t300.length co15] 26 (0, 0)) TK hb); replace BK308 := aM (blk_below (g := gb308) (o := .cells #[.slice Ao20 t305.length co20] 26 (0, 0)) TK hb); replace BK314 := aM (blk_below (g := gb314) (o := .cells #[.slice Ao26 t309.length co26] 26 (0, 0)) TK hb); replace HB := aM (below_step TB hb); clear ho0 hb))
              (try simp only [Act.put, List.setIfInBounds_toArray, List.set_cons_zero, List.set_cons_succ])
              go_cut [131] (fun v131 wc => ∃ (kq : Nat) (x131_76 : Bool), v131 = .bool x131_76 ∧ Aside0 (laws_FnTrees.j2 kq x10_2 t346 x131_76 t296 = some r) ∧ Aside0 (kq ≤ k2) ∧ Aside0 (Kd.R (Kd.int .i64) 3 wc w.heap.size (fun k_ => some k_ ≠ ((.slice Ao11 t296.length co11) : Value).ownBlock ∧ some k_ ≠ ((.slice Ao15 t300.length co15) : Value).ownBlock ∧ some k_ ≠ ((.slice Ao20 t305.length co20) : Value).ownBlock ∧ some k_ ≠ ((.slice Ao26 t309.length co26) : Value).ownBlock) v347 t346) ∧ Aside0 (Kd.R (Kd.int .i64) 3 wc w.heap.size (fun k_ => some k_ ≠ (v347 : Value).ownBlock ∧ some k_ ≠ ((.slice Ao15 t300.length co15) : Value).ownBlock ∧ some k_ ≠ ((.slice Ao20 t305.length co20) : Value).ownBlock ∧ some k_ ≠ ((.slice Ao26 t309.length co26) : Value).ownBlock) (.slice Ao11 t296.length co11) t296) ∧ Aside0 (Kd.R (Kd.int .i64) 3 wc w.heap.size (fun k_ => some k_ ≠ (v347 : Value).ownBlock ∧ some k_ ≠ ((.slice Ao11 t296.length co11) : Value).ownBlock ∧ some k_ ≠ ((.slice Ao20 t305.length co20) : Value).ownBlock ∧ some k_ ≠ ((.slice Ao26 t309.length co26) : Value).ownBlock) (.slice Ao15 t300.length co15) t300) ∧ Aside0 (Kd.R (Kd.int .i64) 3 wc w.heap.size (fun k_ => some k_ ≠ (v347 : Value).ownBlock ∧ some k_ ≠ ((.slice Ao11 t296.length co11) : Value).ownBlock ∧ some k_ ≠ ((.slice Ao15 t300.length co15) : Value).ownBlock ∧ some k_ ≠ ((.slice Ao26 t309.length co26) : Value).ownBlock) (.slice Ao20 t305.length co20) t305) ∧ Aside0 (Kd.R (Kd.int .i64) 3 wc w.heap.size (fun k_ => some k_ ≠ (v347 : Value).ownBlock ∧ some k_ ≠ ((.slice Ao11 t296.length co11) : Value).ownBlock ∧ some k_ ≠ ((.slice Ao15 t300.length co15) : Value).ownBlock ∧ some k_ ≠ ((.slice Ao20 t305.length co20) : Value).ownBlock) (.slice Ao26 t309.length co26) t309) ∧ Aside0 (wc.heap[gb299]? = some (.cells #[(.slice Ao11 t296.length co11)] 26 (0, 0))) ∧ Aside0 (wc.heap[gb304]? = some (.cells #[(.slice Ao15 t300.length co15)] 26 (0, 0))) ∧ Aside0 (wc.heap[gb308]? = some (.cells #[(.slice Ao20 t305.length co20)] 26 (0, 0))) ∧ Aside0 (wc.heap[gb314]? = some (.cells #[(.slice Ao26 t309.length co26)] 26 (0, 0))) ∧ Aside0 (Below w.heap.size w wc))
              case first =>
                have H := HC77.out
                clear HC77
                obtain ⟨ji83, hji83⟩ : ∃ j_ : Int, (wrap64 ((t346.length : Int) - 1)) = j_ := ⟨_, rfl⟩
                (first | rw [hji83] at H | simp only [hji83] at H | skip)
                have hji83w : (IntKind.i64.wrap ((t346.length : Int) - 1)) = ji83 := (i64_w _).trans hji83
                replace H := ifN H
                obtain ⟨c84, H⟩ := H
                have c84b0 : decide (0 ≤ (ji83)) = true := decide_eq_true c84
                clear c84
                (first | rw [c84b0] | (simp only [i64_w, i32_w]; rw [c84b0]) | skip)
                replace H := ifN H
                obtain ⟨c85, H⟩ := H
                have c85b0 : decide ((ji83) < (t346.length : Int)) = true := decide_eq_true c85
                clear c85
                by_cases c86 : (rd t346 (ji83)) = 0
                · rw [if_pos c86] at H
                  have c86b0 : ((rd t346 (ji83)) == 0) = true := beq_iff_eq.mpr c86
                  have c86b1 : ((rd t346 (ji83)) != 0) = false := bne_eq_false_iff_eq.mpr c86
                  clear c86
                  replace H := bE H
                  obtain ⟨t350, A87, H⟩ := H
                  by_cases c88 : (t346.length : Int) = (wrap64 (t350 + 1))
                  · rw [if_pos c88] at H
                    have c88b0 : ((t346.length : Int) == (wrap64 (t350 + 1))) = true := beq_iff_eq.mpr c88
                    have c88b1 : ((t346.length : Int) != (wrap64 (t350 + 1))) = false := bne_eq_false_iff_eq.mpr c88
                    clear c88
                    by_cases c89 : x10_2 > 0
                    · rw [if_pos c89] at H
                      have c89b0 : decide (0 < x10_2) = true := decide_eq_true c89
                      clear c89
                      replace H := ifN H
                      obtain ⟨c90, H⟩ := H
                      have c90b0 : decide (0 ≤ x10_2) = true := decide_eq_true c90
                      clear c90
                      replace H := bE H
                      obtain ⟨t352, A91, H⟩ := H
                      replace H := bE H
                      obtain ⟨t355, A92, H⟩ := H
                      have H' := aM H
                      clear H
                      try go_wp2
                      replace HO_300000 := aM (Kd.R_drew HO_300000.out)
                      replace HO_305000 := aM (Kd.R_drew HO_305000.out)
                      replace HO_309000 := aM (Kd.R_drew HO_309000.out)
                      replace HO_315000 := aM (Kd.R_drew HO_315000.out)
                      replace HO348 := aM (Kd.R_drew HO348.out)
                      replace BK299 := aM (blk_drew BK299.out)
                      replace BK304 := aM (blk_drew BK304.out)
                      replace BK308 := aM (blk_drew BK308.out)
                      replace BK314 := aM (blk_drew BK314.out)
                      replace HB := aM (below_drew1 HB.out)
                      obtain ⟨Ao94, co94, eo94⟩ := Kd.R_slice HO348.out
                      (first | subst eo94 | (injection eo94 with f1_ f2_ f3_; have f4_ := f1_.symm; have f5_ := f3_.symm; clear f1_ f2_ f3_; subst f4_; subst f5_))
                      have p349 : 0 ≤ ((ji83) : Int) := DT
                      have q349 : (ji83) < (t346.length : Int) := DT
                      obtain ⟨ad349, e349, hx349_0⟩ := Kd.at_int (Kd.R_reads' HO348.out).2.2 (ji83) p349 q349
                      cases e349
                      replace p349 := eq_true p349
                      replace q349 := eq_true q349
                      have p351 : 0 ≤ (x10_2 : Int) := DT
                      have q351 : x10_2 < (t296.length : Int) := DT
                      obtain ⟨ad351, e351, hx351_0⟩ := Kd.at_int (Kd.R_reads' HO_300000.out).2.2 x10_2 p351 q351
                      cases e351
                      replace p351 := eq_true p351
                      replace q351 := eq_true q351
                      refine start_ (n := 32) (S := fun w' => w'.cell? ⟨gb299, 0, none⟩ = some (.slice (some ad351) t296.length co11) ∧ w'.cell? (ad349.add ((ji83)).toNat) = some (.int .i64 (rd t346 (ji83))) ∧ w'.cell? (ad351.add (x10_2).toNat) = some (.int .i64 (rd t296 x10_2))) (ds := []) (Array.replicate 32 false) (by kernel_rfl) rfl rfl ⟨(blk_cell BK299.out 0).trans rfl, hx349_0, hx351_0⟩ (fun hHeld => ?_); refine with_tabW laws_FnTrees.tab13 laws_FnTrees.bits13 (fun HT_ HW_ => ?_)
                      generalize w82.drew = w93 at HO_300000 HO_305000 HO_309000 HO_315000 HO348 BK299 BK304 BK308 BK314 HB hx349_0 hx351_0 hHeld ⊢
                      refine pP 0 (some 100) ?_
                      refine pP 1 (some 101) ?_
                      refine pP 2 (some 102) ?_
                      refine pP 3 (some 103) ?_
                      refine pP 4 (some 104) ?_
                      refine pT 5 (some 105) ?_
                      refine pP 6 (some 106) ?_
                      refine pP 7 (some 107) ?_
                      refine pP 8 (some 108) ?_
                      refine pP 9 (some 109) ?_
                      refine pP 11 (some 111) ?_
                      refine pT 10 (some 110) ?_
                      refine pO 12 (some 112) (fun K hK => ?_)
                      refine gG Try.func18 #[.agg #[.slice (some ad351) t296.length co11], .int .i64 x10_2] ?_
                      with_reducible refine (impl_DeepOf.calls k2 _ _ t296 x10_2 t350 _ ?side1 ?side2 A87.out).mono ?_
                      (case side1 => have X_ := (Kd.R_reads' HO_300000.out).2.2; exact TC)
                      (case side2 => exact (Kd.R_reads' HO_300000.out).2.1)
                      rintro e w95 ⟨rfl, hb⟩
                      have HS1_ := (hb.cell (World.block_lt_of_cell? _ _ (hHeld.2.1))).trans (hHeld.2.1)
                      have HS2_ := (hb.cell (World.block_lt_of_cell? _ _ (hHeld.2.2))).trans (hHeld.2.2)
                      refine ⟨_, rfl, ?_⟩
                      have n0_ := aM (Kd.R_below (by have X_ := HO_300000.out; exact TR) hb)
                      have n1_ := aM (Kd.R_below (by have X_ := HO_305000.out; exact TR) hb)
                      have n2_ := aM (Kd.R_below (by have X_ := HO_309000.out; exact TR) hb)
                      have n3_ := aM (Kd.R_below (by have X_ := HO_315000.out; exact TR) hb)
                      have n4_ := aM (Kd.R_below (by have X_ := HO348.out; exact TR) hb)
                      have n5_ := aM (blk_below (g := gb299) (o := .cells #[.slice (some ad351) t296.length co11] 26 (0, 0)) TK hb)
                      have n6_ := aM (blk_below (g := gb304) (o := .cells #[.slice Ao15 t300.length co15] 26 (0, 0)) TK hb)
                      have n7_ := aM (blk_below (g := gb308) (o := .cells #[.slice Ao20 t305.length co20] 26 (0, 0)) TK hb)
                      have n8_ := aM (blk_below (g := gb314) (o := .cells #[.slice Ao26 t309.length co26] 26 (0, 0)) TK hb)
                      have n9_ := aM (below_step TB hb)
                      clear HO_300000
                      clear HO_305000
                      clear HO_309000
                      clear HO_315000
                      clear HO348
                      clear BK299
                      clear BK304
                      clear BK308
                      clear BK314
                      clear HB
                      have HO_300000 := n0_
                      have HO_305000 := n1_
                      have HO_309000 := n2_
                      have HO_315000 := n3_
                      have HO348 := n4_
                      have BK299 := n5_
                      have BK304 := n6_
                      have BK308 := n7_
                      have BK314 := n8_
                      have HB := n9_
                      clear n0_ n1_ n2_ n3_ n4_ n5_ n6_ n7_ n8_ n9_
                      (try clear hb)
                      (try clear hb2)
                      (try clear hk)
                      (try clear hi)
                      refine hK.out _ _ ⟨(blk_cell BK299.out 0).trans rfl, HS1_, HS2_⟩ (fun hHeld => ?_)
                      clear hK K
                      refine nR ?_
                      refine pP 13 (some 113) ?_
                      refine pP 14 (some 114) ?_
                      refine pP 15 (some 115) ?_
                      refine pP 16 (some 116) ?_
                      refine pP 17 (some 117) ?_
                      refine pP 18 (some 118) ?_
                      refine pP 19 (some 119) ?_
                      refine pP 21 (some 121) ?_
                      refine pP 23 (some 123) ?_
                      refine pP 27 (some 127) ?_
                      refine pT 20 (some 120) ?_
                      refine pT 22 (some 122) ?_
                      refine pP 24 (some 124) ?_
                      refine pT 25 (some 125) ?_
                      refine pO 26 (some 126) (fun K hK => ?_)
                      refine gG Try.func16 #[.agg #[.slice (some ad351) t296.length co11], .int .i64 (rd t296 x10_2)] ?_
                      with_reducible refine (impl_KidsOf.calls k2 _ _ t296 (rd t296 x10_2) t352 _ ?side1 ?side2 A91.out).mono ?_
                      (case side1 => have X_ := (Kd.R_reads' HO_300000.out).2.2; exact TC)
                      (case side2 => exact (Kd.R_reads' HO_300000.out).2.1)
                      rintro e w96 ⟨v353, rfl, ho0, hb⟩
                      have HS1_ := (hb.cell (World.block_lt_of_cell? _ _ (hHeld.2.1))).trans (hHeld.2.1)
                      have HS2_ := (hb.cell (World.block_lt_of_cell? _ _ (hHeld.2.2))).trans (hHeld.2.2)
                      refine ⟨_, rfl, ?_⟩
                      have n0_ := aM (Kd.R_elder' (by have X_ := HO_300000.out; exact TR) (Kd.R_base ho0) hb)
                      have n1_ := aM (Kd.R_elder' (by have X_ := HO_305000.out; exact TR) (Kd.R_base ho0) hb)
                      have n2_ := aM (Kd.R_elder' (by have X_ := HO_309000.out; exact TR) (Kd.R_base ho0) hb)
                      have n3_ := aM (Kd.R_elder' (by have X_ := HO_315000.out; exact TR) (Kd.R_base ho0) hb)
                      have n4_ := aM (Kd.R_elder' (by have X_ := HO348.out; exact TR) (Kd.R_base ho0) hb)
                      have n5_ := aM (Kd.R_lower (Kd.R_new' (Kd.R_new' (Kd.R_new' (Kd.R_new' (Kd.R_new' ho0 (Kd.R_lt (by have X_ := HO_300000.out; exact TR))) (Kd.R_lt (by have X_ := HO_305000.out; exact TR))) (Kd.R_lt (by have X_ := HO_309000.out; exact TR))) (Kd.R_lt (by have X_ := HO_315000.out; exact TR))) (Kd.R_lt (by have X_ := HO348.out; exact TR))) (below_size TB))
                      have n6_ := aM (blk_below (g := gb299) (o := .cells #[.slice (some ad351) t296.length co11] 26 (0, 0)) TK hb)
                      have n7_ := aM (blk_below (g := gb304) (o := .cells #[.slice Ao15 t300.length co15] 26 (0, 0)) TK hb)
                      have n8_ := aM (blk_below (g := gb308) (o := .cells #[.slice Ao20 t305.length co20] 26 (0, 0)) TK hb)
                      have n9_ := aM (blk_below (g := gb314) (o := .cells #[.slice Ao26 t309.length co26] 26 (0, 0)) TK hb)
                      have n10_ := aM (below_step TB hb)
                      clear HO_300000
                      clear HO_305000
                      clear HO_309000
                      clear HO_315000
                      clear HO348
                      clear BK299
                      clear BK304
                      clear BK308
                      clear BK314
                      clear HB
                      have HO_300000 := n0_
                      have HO_305000 := n1_
                      have HO_309000 := n2_
                      have HO_315000 := n3_
                      have HO348 := n4_
                      have HO354 := n5_
                      have BK299 := n6_
                      have BK304 := n7_
                      have BK308 := n8_
                      have BK314 := n9_
                      have HB := n10_
                      clear n0_ n1_ n2_ n3_ n4_ n5_ n6_ n7_ n8_ n9_ n10_
                      (try clear hb)
                      (try clear hb2)
                      (try clear hk)
                      (try clear hi)
                      (try clear ho0)
                      obtain ⟨Ao97, co97, eo97⟩ := Kd.R_slice HO354.out
                      (first | subst eo97 | (injection eo97 with f1_ f2_ f3_; have f4_ := f1_.symm; have f5_ := f3_.symm; clear f1_ f2_ f3_; subst f4_; subst f5_))
                      refine hK.out _ _ ⟨(blk_cell BK299.out 0).trans rfl, HS1_, HS2_⟩ (fun hHeld => ?_)
                      clear hK K
                      refine nR ?_
                      refine pO 28 (some 128) (fun K hK => ?_)
                      refine gG Try.func22 #[.slice Ao97 t352.length co97, .int .i64 x10_2] ?_
                      with_reducible refine (laws_in.calls k2 _ _ t352 x10_2 t355 _ ?side1 ?side2 A92.out).mono ?_
                      (case side1 => have X_ := (Kd.R_reads' HO354.out).2.2; exact TC)
                      (case side2 => exact (Kd.R_reads' HO354.out).2.1)
                      rintro e w' ⟨rfl, ⟨nd, rfl⟩⟩
                      refine ⟨_, rfl, ?_⟩
                      refine hK.out _ _ ⟨(blk_cell BK299.out 0).trans rfl, hHeld.2.1, hHeld.2.2⟩ (fun hHeld => ?_)
                      clear hK K
                      refine nR ?_
                      refine pP 29 (some 129) ?_
                      refine pP 30 (some 130) ?_
                      refine pP 31 (some 131) ?_
                      refine done_ (done_of HT_.out (by kernel_rfl)) ?_
                      try go_wp2
                      go_meet
                      case rel => exact ⟨_, (!t355), (by first | rfl | (simp; done) | (simp [*]; done)), H', ⟨by have := HJ7.out; have := HK2.out; first | omega | exact Nat.le_refl _⟩, ⟨by (with_reducible repeat (first | apply Kd.R_alloc | apply Kd.R_drewN | apply Kd.R_drew)); exact Kd.R_mono HO348.out (fun _ hk => ⟨hk.1.1.1.1.2, ⟨hk.1.1.1.2, ⟨hk.1.1.2, hk.1.2⟩⟩⟩)⟩, ⟨by (with_reducible repeat (first | apply Kd.R_alloc | apply Kd.R_drewN | apply Kd.R_drew)); exact Kd.R_mono HO_300000.out (fun _ hk => ⟨hk.1.2, ⟨hk.1.1.1, ⟨hk.1.1.2.1, hk.1.1.2.2⟩⟩⟩)⟩, ⟨by (with_reducible repeat (first | apply Kd.R_alloc | apply Kd.R_drewN | apply Kd.R_drew)); exact Kd.R_mono HO_305000.out (fun _ hk => ⟨hk.1.2, ⟨hk.1.1.1, ⟨hk.1.1.2.1, hk.1.1.2.2⟩⟩⟩)⟩, ⟨by (with_reducible repeat (first | apply Kd.R_alloc | apply Kd.R_drewN | apply Kd.R_drew)); exact Kd.R_mono HO_309000.out (fun _ hk => ⟨hk.1.2, ⟨hk.1.1.1, ⟨hk.1.1.2.1, hk.1.1.2.2⟩⟩⟩)⟩, ⟨by (with_reducible repeat (first | apply Kd.R_alloc | apply Kd.R_drewN | apply Kd.R_drew)); exact Kd.R_mono HO_315000.out (fun _ hk => ⟨hk.1.2, ⟨hk.1.1.1, ⟨hk.1.1.2.1, hk.1.1.2.2⟩⟩⟩)⟩, ⟨TK⟩, ⟨TK⟩, ⟨TK⟩, ⟨TK⟩, ⟨TB⟩⟩
                    · rw [if_neg c89] at H
                      have c89b0 : decide (0 < x10_2) = false := decide_eq_false c89
                      clear c89
                      have H' := aM H
                      clear H
                      try go_wp2
                      replace HO_300000 := aM (Kd.R_drew HO_300000.out)
                      replace HO_305000 := aM (Kd.R_drew HO_305000.out)
                      replace HO_309000 := aM (Kd.R_drew HO_309000.out)
                      replace HO_315000 := aM (Kd.R_drew HO_315000.out)
                      replace HO348 := aM (Kd.R_drew HO348.out)
                      replace BK299 := aM (blk_drew BK299.out)
                      replace BK304 := aM (blk_drew BK304.out)
                      replace BK308 := aM (blk_drew BK308.out)
                      replace BK314 := aM (blk_drew BK314.out)
                      replace HB := aM (below_drew1 HB.out)
                      obtain ⟨Ao99, co99, eo99⟩ := Kd.R_slice HO348.out
                      (first | subst eo99 | (injection eo99 with f1_ f2_ f3_; have f4_ := f1_.symm; have f5_ := f3_.symm; clear f1_ f2_ f3_; subst f4_; subst f5_))
                      have p349 : 0 ≤ ((ji83) : Int) := DT
                      have q349 : (ji83) < (t346.length : Int) := DT
                      obtain ⟨ad349, e349, hx349_0⟩ := Kd.at_int (Kd.R_reads' HO348.out).2.2 (ji83) p349 q349
                      cases e349
                      replace p349 := eq_true p349
                      replace q349 := eq_true q349
                      refine start_ (n := 32) (S := fun w' => w'.cell? ⟨gb299, 0, none⟩ = some (.slice Ao11 t296.length co11) ∧ w'.cell? (ad349.add ((ji83)).toNat) = some (.int .i64 (rd t346 (ji83)))) (ds := []) (Array.replicate 32 false) (by kernel_rfl) rfl rfl ⟨(blk_cell BK299.out 0).trans rfl, hx349_0⟩ (fun hHeld => ?_); refine with_tabW laws_FnTrees.tab13 laws_FnTrees.bits13 (fun HT_ HW_ => ?_)
                      generalize w82.drew = w98 at HO_300000 HO_305000 HO_309000 HO_315000 HO348 BK299 BK304 BK308 BK314 HB hx349_0 hHeld ⊢
                      refine pP 0 (some 100) ?_
                      refine pP 1 (some 101) ?_
                      refine pP 2 (some 102) ?_
                      refine pP 3 (some 103) ?_
                      refine pP 4 (some 104) ?_
                      refine pT 5 (some 105) ?_
                      refine pP 6 (some 106) ?_
                      refine pP 7 (some 107) ?_
                      refine pP 8 (some 108) ?_
                      refine pP 9 (some 109) ?_
                      refine pP 11 (some 111) ?_
                      refine pT 10 (some 110) ?_
                      refine pO 12 (some 112) (fun K hK => ?_)
                      refine gG Try.func18 #[.agg #[.slice Ao11 t296.length co11], .int .i64 x10_2] ?_
                      with_reducible refine (impl_DeepOf.calls k2 _ _ t296 x10_2 t350 _ ?side1 ?side2 A87.out).mono ?_
                      (case side1 => have X_ := (Kd.R_reads' HO_300000.out).2.2; exact TC)
                      (case side2 => exact (Kd.R_reads' HO_300000.out).2.1)
                      rintro e w100 ⟨rfl, hb⟩
                      have HS1_ := (hb.cell (World.block_lt_of_cell? _ _ (hHeld.2))).trans (hHeld.2)
                      refine ⟨_, rfl, ?_⟩
                      have n0_ := aM (Kd.R_below (by have X_ := HO_300000.out; exact TR) hb)
                      have n1_ := aM (Kd.R_below (by have X_ := HO_305000.out; exact TR) hb)
                      have n2_ := aM (Kd.R_below (by have X_ := HO_309000.out; exact TR) hb)
                      have n3_ := aM (Kd.R_below (by have X_ := HO_315000.out; exact TR) hb)
                      have n4_ := aM (Kd.R_below (by have X_ := HO348.out; exact TR) hb)
                      have n5_ := aM (blk_below (g := gb299) (o := .cells #[.slice Ao11 t296.length co11] 26 (0, 0)) TK hb)
                      have n6_ := aM (blk_below (g := gb304) (o := .cells #[.slice Ao15 t300.length co15] 26 (0, 0)) TK hb)
                      have n7_ := aM (blk_below (g := gb308) (o := .cells #[.slice Ao20 t305.length co20] 26 (0, 0)) TK hb)
                      have n8_ := aM (blk_below (g := gb314) (o := .cells #[.slice Ao26 t309.length co26] 26 (0, 0)) TK hb)
                      have n9_ := aM (below_step TB hb)
                      clear HO_300000
                      clear HO_305000
                      clear HO_309000
                      clear HO_315000
                      clear HO348
                      clear BK299
                      clear BK304
                      clear BK308
                      clear BK314
                      clear HB
                      have HO_300000 := n0_
                      have HO_305000 := n1_
                      have HO_309000 := n2_
                      have HO_315000 := n3_
                      have HO348 := n4_
                      have BK299 := n5_
                      have BK304 := n6_
                      have BK308 := n7_
                      have BK314 := n8_
                      have HB := n9_
                      clear n0_ n1_ n2_ n3_ n4_ n5_ n6_ n7_ n8_ n9_
                      (try clear hb)
                      (try clear hb2)
                      (try clear hk)
                      (try clear hi)
                      refine hK.out _ _ ⟨(blk_cell BK299.out 0).trans rfl, HS1_⟩ (fun hHeld => ?_)
                      clear hK K
                      refine nR ?_
                      refine pP 13 (some 113) ?_
                      refine pP 14 (some 114) ?_
                      refine pP 15 (some 115) ?_
                      refine pP 16 (some 116) ?_
                      refine pP 17 (some 117) ?_
                      refine pP 18 (some 118) ?_
                      refine pP 19 (some 119) ?_
                      refine pX 20 (some 120) ?_
                      refine pX 21 (some 121) ?_
                      refine pX 22 (some 122) ?_
                      refine pX 23 (some 123) ?_
                      refine pX 24 (some 124) ?_
                      refine pX 25 (some 125) ?_
                      refine pX 26 (some 126) ?_
                      refine pX 27 (some 127) ?_
                      refine pX 28 (some 128) ?_
                      refine pX 29 (some 129) ?_
                      refine pP 30 (some 130) ?_
                      refine pP 31 (some 131) ?_
                      refine done_ (done_of HT_.out (by kernel_rfl)) ?_
                      try go_wp2
                      go_meet
                      case rel => exact ⟨_, (false), (by first | rfl | (simp; done) | (simp [*]; done)), H', ⟨by have := HJ7.out; have := HK2.out; first | omega | exact Nat.le_refl _⟩, ⟨by (with_reducible repeat (first | apply Kd.R_alloc | apply Kd.R_drewN | apply Kd.R_drew)); exact Kd.R_mono HO348.out (fun _ hk => ⟨hk.1.1.1.2, ⟨hk.1.1.2, ⟨hk.1.2, hk.2⟩⟩⟩)⟩, ⟨by (with_reducible repeat (first | apply Kd.R_alloc | apply Kd.R_drewN | apply Kd.R_drew)); exact Kd.R_mono HO_300000.out (fun _ hk => ⟨hk.2, ⟨hk.1.1, ⟨hk.1.2.1, hk.1.2.2⟩⟩⟩)⟩, ⟨by (with_reducible repeat (first | apply Kd.R_alloc | apply Kd.R_drewN | apply Kd.R_drew)); exact Kd.R_mono HO_305000.out (fun _ hk => ⟨hk.2, ⟨hk.1.1, ⟨hk.1.2.1, hk.1.2.2⟩⟩⟩)⟩, ⟨by (with_reducible repeat (first | apply Kd.R_alloc | apply Kd.R_drewN | apply Kd.R_drew)); exact Kd.R_mono HO_309000.out (fun _ hk => ⟨hk.2, ⟨hk.1.1, ⟨hk.1.2.1, hk.1.2.2⟩⟩⟩)⟩, ⟨by (with_reducible repeat (first | apply Kd.R_alloc | apply Kd.R_drewN | apply Kd.R_drew)); exact Kd.R_mono HO_315000.out (fun _ hk => ⟨hk.2, ⟨hk.1.1, ⟨hk.1.2.1, hk.1.2.2⟩⟩⟩)⟩, ⟨TK⟩, ⟨TK⟩, ⟨TK⟩, ⟨TK⟩, ⟨TB⟩⟩
                  · rw [if_neg c88] at H
                    have c88b0 : ((t346.length : Int) == (wrap64 (t350 + 1))) = false := beq_eq_false_iff_ne.mpr c88
                    have c88b1 : ((t346.length : Int) != (wrap64 (t350 + 1))) = true := bne_iff_ne.mpr c88
                    exact absurd H (by simp)
                · rw [if_neg c86] at H
                  have c86b0 : ((rd t346 (ji83)) == 0) = false := beq_eq_false_iff_ne.mpr c86
                  have c86b1 : ((rd t346 (ji83)) != 0) = true := bne_iff_ne.mpr c86
                  exact absurd H (by simp)
              case rest =>
                clear HC77
                try clear c1
                try clear c2
                try clear p2
                try clear p3
                try clear q3
                try clear hx3
                try clear p6
                try clear c8
                try clear c16
                try clear c18
                try clear c22
                try clear p34
                try clear q34
                try clear hx34
                try clear p64
                try clear c86
                try clear c86b0
                try clear c86b1
                try clear c88
                try clear c88b0
                try clear c88b1
                try clear c89
                try clear c89b0
                try clear hx349_0
                try clear p349
                try clear q349
                obtain ⟨kq, x131_76, rfl, HA, HJ76, HO_11, HO_300000, HO_305000, HO_309000, HO_315000, BK299, BK304, BK308, BK314, HB⟩ := hcut
                cases kq with
                | zero => exact absurd HA.out (by simp [laws_FnTrees.j2])
                | succ kj76 =>
                  have H := HA.out
                  clear HA
                  simp only [laws_FnTrees.j2] at H
                  replace H := ifM H
                  obtain ⟨c101, H⟩ := H
                  replace c101 := Bool.eq_false_iff.mpr c101
                  subst c101
                  have H' := aM H
                  clear H
                  go_wp2
                  go_loopg [12] kj76 (fun kq v12 w' => ∃ (x12_4 : Int), v12 = .int .i64 x12_4 ∧ Aside0 (laws_FnTrees.l1 kq x10_2 t346 x12_4 t296 = some r) ∧ Aside0 (kq ≤ kj76) ∧ Aside0 (Kd.R (Kd.int .i64) 3 w' w.heap.size (fun k_ => some k_ ≠ ((.slice Ao11 t296.length co11) : Value).ownBlock ∧ some k_ ≠ ((.slice Ao15 t300.length co15) : Value).ownBlock ∧ some k_ ≠ ((.slice Ao20 t305.length co20) : Value).ownBlock ∧ some k_ ≠ ((.slice Ao26 t309.length co26) : Value).ownBlock) v347 t346) ∧ Aside0 (Kd.R (Kd.int .i64) 3 w' w.heap.size (fun k_ => some k_ ≠ (v347 : Value).ownBlock ∧ some k_ ≠ ((.slice Ao15 t300.length co15) : Value).ownBlock ∧ some k_ ≠ ((.slice Ao20 t305.length co20) : Value).ownBlock ∧ some k_ ≠ ((.slice Ao26 t309.length co26) : Value).ownBlock) (.slice Ao11 t296.length co11) t296) ∧ Aside0 (Kd.R (Kd.int .i64) 3 w' w.heap.size (fun k_ => some k_ ≠ (v347 : Value).ownBlock ∧ some k_ ≠ ((.slice Ao11 t296.length co11) : Value).ownBlock ∧ some k_ ≠ ((.slice Ao20 t305.length co20) : Value).ownBlock ∧ some k_ ≠ ((.slice Ao26 t309.length co26) : Value).ownBlock) (.slice Ao15 t300.length co15) t300) ∧ Aside0 (Kd.R (Kd.int .i64) 3 w' w.heap.size (fun k_ => some k_ ≠ (v347 : Value).ownBlock ∧ some k_ ≠ ((.slice Ao11 t296.length co11) : Value).ownBlock ∧ some k_ ≠ ((.slice Ao15 t300.length co15) : Value).ownBlock ∧ some k_ ≠ ((.slice Ao26 t309.length co26) : Value).ownBlock) (.slice Ao20 t305.length co20) t305) ∧ Aside0 (Kd.R (Kd.int .i64) 3 w' w.heap.size (fun k_ => some k_ ≠ (v347 : Value).ownBlock ∧ some k_ ≠ ((.slice Ao11 t296.length co11) : Value).ownBlock ∧ some k_ ≠ ((.slice Ao15 t300.length co15) : Value).ownBlock ∧ some k_ ≠ ((.slice Ao20 t305.length co20) : Value).ownBlock) (.slice Ao26 t309.length co26) t309) ∧ Aside0 (w'.heap[gb299]? = some (.cells #[(.slice Ao11 t296.length co11)] 26 (0, 0))) ∧ Aside0 (w'.heap[gb304]? = some (.cells #[(.slice Ao15 t300.length co15)] 26 (0, 0))) ∧ Aside0 (w'.heap[gb308]? = some (.cells #[(.slice Ao20 t305.length co20)] 26 (0, 0))) ∧ Aside0 (w'.heap[gb314]? = some (.cells #[(.slice Ao26 t309.length co26)] 26 (0, 0))) ∧ Aside0 (Below w.heap.size w w'))
                  case atStart => exact ⟨(1), (by first | rfl | (simp; done) | (simp [*]; done)), H', ⟨Nat.le_refl _⟩, ⟨by have X_ := HO_11.out; exact TR⟩, ⟨by have X_ := HO_300000.out; exact TR⟩, ⟨by have X_ := HO_305000.out; exact TR⟩, ⟨by have X_ := HO_309000.out; exact TR⟩, ⟨by have X_ := HO_315000.out; exact TR⟩, ⟨TK⟩, ⟨TK⟩, ⟨TK⟩, ⟨TK⟩, ⟨TB⟩⟩
                  case round =>
                    clear H'
                    try clear c1
                    try clear c2
                    try clear p2
                    try clear p3
                    try clear q3
                    try clear hx3
                    try clear p6
                    try clear c8
                    try clear c10
                    try clear c16
                    try clear c18
                    try clear c22
                    try clear p34
                    try clear q34
                    try clear hx34
                    try clear p64
                    try clear c86
                    try clear c86b0
                    try clear c86b1
                    try clear c88
                    try clear c88b0
                    try clear c88b1
                    try clear c89
                    try clear c89b0
                    try clear c101
                    try clear hx349_0
                    try clear p2
                    try clear p3
                    try clear p34
                    try clear p349
                    try clear p6
                    try clear p64
                    try clear q3
                    try clear q34
                    try clear q349
                    obtain ⟨x12_4, rfl, HA, HK4, HO_11, HO_300000, HO_305000, HO_309000, HO_315000, BK299, BK304, BK308, BK314, HB⟩ := hrel
                    cases gk with
                    | zero => exact absurd HA.out (by simp [laws_FnTrees.l1])
                    | succ k4 =>
                      have H := HA.out
                      clear HA
                      simp only [laws_FnTrees.l1] at H
                      by_cases c102 : x12_4 < (t346.length : Int)
                      · rw [if_pos c102] at H
                        have c102b0 : decide (x12_4 < (t346.length : Int)) = true := decide_eq_true c102
                        clear c102
                        replace H := ifN H
                        obtain ⟨c103, H⟩ := H
                        have c103b0 : decide (0 ≤ x12_4) = true := decide_eq_true c103
                        clear c103
                        replace H := bE H
                        obtain ⟨t357, A104, H⟩ := H
                        by_cases c105 : t357 = true
                        · subst c105
                          replace H := ifT H
                          replace H := bE H
                          obtain ⟨t359, A106, H⟩ := H
                          replace H := bE H
                          obtain ⟨t362, A107, H⟩ := H
                          replace H := ifN H
                          obtain ⟨c108, H⟩ := H
                          subst c108
                          have H' := aM H
                          clear H
                          obtain ⟨Ao109, co109, eo109⟩ := Kd.R_slice HO_11.out
                          subst eo109
                          try go_wp2
                          replace HO_11 := aM (Kd.R_drew HO_11.out)
                          replace HO_300000 := aM (Kd.R_drew HO_300000.out)
                          replace HO_305000 := aM (Kd.R_drew HO_305000.out)
                          replace HO_309000 := aM (Kd.R_drew HO_309000.out)
                          replace HO_315000 := aM (Kd.R_drew HO_315000.out)
                          replace BK299 := aM (blk_drew BK299.out)
                          replace BK304 := aM (blk_drew BK304.out)
                          replace BK308 := aM (blk_drew BK308.out)
                          replace BK314 := aM (blk_drew BK314.out)
                          replace HB := aM (below_drew1 HB.out)
                          have p356 : 0 ≤ (x12_4 : Int) := DT
                          have q356 : x12_4 < (t346.length : Int) := DT
                          obtain ⟨ad356, e356, hx356_0⟩ := Kd.at_int (Kd.R_reads' HO_11.out).2.2 x12_4 p356 q356
                          cases e356
                          replace p356 := eq_true p356
                          replace q356 := eq_true q356
                          have p358 : 0 ≤ (x12_4 : Int) := DT
                          have q358 : x12_4 < (t346.length : Int) := DT
                          obtain ⟨ad358, e358, hx358_0⟩ := Kd.at_int (Kd.R_reads' HO_11.out).2.2 x12_4 p358 q358
                          obtain rfl : ad356 = ad358 := (by injection e358)
                          replace p358 := eq_true p358
                          replace q358 := eq_true q358
                          refine start_ (n := 19) (S := fun w' => w'.cell? ⟨gb299, 0, none⟩ = some (.slice Ao11 t296.length co11) ∧ w'.cell? (ad356.add (x12_4).toNat) = some (.int .i64 (rd t346 x12_4)) ∧ w'.cell? (ad356.add (x12_4).toNat) = some (.int .i64 (rd t346 x12_4))) (ds := []) (Array.replicate 19 false) (by kernel_rfl) rfl rfl ⟨(blk_cell BK299.out 0).trans rfl, hx356_0, hx358_0⟩ (fun hHeld => ?_); refine with_tabW laws_FnTrees.tab18 laws_FnTrees.bits18 (fun HT_ HW_ => ?_)
                          generalize wr.drew = w110 at HO_11 HO_300000 HO_305000 HO_309000 HO_315000 BK299 BK304 BK308 BK314 HB hx356_0 hx358_0 hHeld ⊢
                          refine pP 1 (some 139) ?_
                          refine pP 2 (some 140) ?_
                          refine pP 3 (some 141) ?_
                          refine pP 5 (some 143) ?_
                          refine pT 0 (some 138) ?_
                          refine pT 4 (some 142) ?_
                          refine pO 6 (some 144) (fun K hK => ?_)
                          refine gG Try.func20 #[.agg #[.slice Ao11 t296.length co11], .int .i64 (rd t346 x12_4), .int .i64 x10_2] ?_
                          with_reducible refine (impl_Ancestor.calls k4 _ _ t296 (rd t346 x12_4) x10_2 true _ ?side1 ?side2 A104.out).mono ?_
                          (case side1 => have X_ := (Kd.R_reads' HO_300000.out).2.2; exact TC)
                          (case side2 => exact (Kd.R_reads' HO_300000.out).2.1)
                          rintro e w111 ⟨rfl, hb⟩
                          have HS1_ := (hb.cell (World.block_lt_of_cell? _ _ (hHeld.2.1))).trans (hHeld.2.1)
                          have HS2_ := (hb.cell (World.block_lt_of_cell? _ _ (hHeld.2.2))).trans (hHeld.2.2)
                          refine ⟨_, rfl, ?_⟩
                          have n0_ := aM (Kd.R_below (by have X_ := HO_11.out; exact TR) hb)
                          have n1_ := aM (Kd.R_below (by have X_ := HO_300000.out; exact TR) hb)
                          have n2_ := aM (Kd.R_below (by have X_ := HO_305000.out; exact TR) hb)
                          have n3_ := aM (Kd.R_below (by have X_ := HO_309000.out; exact TR) hb)
                          have n4_ := aM (Kd.R_below (by have X_ := HO_315000.out; exact TR) hb)
                          have n5_ := aM (blk_below (g := gb299) (o := .cells #[.slice Ao11 t296.length co11] 26 (0, 0)) TK hb)
                          have n6_ := aM (blk_below (g := gb304) (o := .cells #[.slice Ao15 t300.length co15] 26 (0, 0)) TK hb)
                          have n7_ := aM (blk_below (g := gb308) (o := .cells #[.slice Ao20 t305.length co20] 26 (0, 0)) TK hb)
                          have n8_ := aM (blk_below (g := gb314) (o := .cells #[.slice Ao26 t309.length co26] 26 (0, 0)) TK hb)
                          have n9_ := aM (below_step TB hb)
                          clear HO_11
                          clear HO_300000
                          clear HO_305000
                          clear HO_309000
                          clear HO_315000
                          clear BK299
                          clear BK304
                          clear BK308
                          clear BK314
                          clear HB
                          have HO_11 := n0_
                          have HO_300000 := n1_
                          have HO_305000 := n2_
                          have HO_309000 := n3_
                          have HO_315000 := n4_
                          have BK299 := n5_
                          have BK304 := n6_
                          have BK308 := n7_
                          have BK314 := n8_
                          have HB := n9_
                          clear n0_ n1_ n2_ n3_ n4_ n5_ n6_ n7_ n8_ n9_
                          (try clear hb)
                          (try clear hb2)
                          (try clear hk)
                          (try clear hi)
                          refine hK.out _ _ ⟨(blk_cell BK299.out 0).trans rfl, HS1_, HS2_⟩ (fun hHeld => ?_)
                          clear hK K
                          refine nR ?_
                          refine pP 7 (some 145) ?_
                          refine pP 8 (some 146) ?_
                          refine pP 10 (some 148) ?_
                          refine pP 11 (some 149) ?_
                          refine pP 12 (some 150) ?_
                          refine pP 15 (some 153) ?_
                          refine pT 9 (some 147) ?_
                          refine pT 13 (some 151) ?_
                          refine pO 14 (some 152) (fun K hK => ?_)
                          refine gG Try.func14 #[.agg #[.slice Ao11 t296.length co11], .int .i64 (rd t346 x12_4)] ?_
                          with_reducible refine (impl_BelowOf.calls k4 _ _ t296 (rd t346 x12_4) t359 _ ?side1 ?side2 A106.out).mono ?_
                          (case side1 => have X_ := (Kd.R_reads' HO_300000.out).2.2; exact TC)
                          (case side2 => exact (Kd.R_reads' HO_300000.out).2.1)
                          rintro e w112 ⟨v360, rfl, ho0, hb⟩
                          have HS1_ := (hb.cell (World.block_lt_of_cell? _ _ (hHeld.2.1))).trans (hHeld.2.1)
                          have HS2_ := (hb.cell (World.block_lt_of_cell? _ _ (hHeld.2.2))).trans (hHeld.2.2)
                          refine ⟨_, rfl, ?_⟩
                          have n0_ := aM (Kd.R_elder' (by have X_ := HO_11.out; exact TR) (Kd.R_base ho0) hb)
                          have n1_ := aM (Kd.R_elder' (by have X_ := HO_300000.out; exact TR) (Kd.R_base ho0) hb)
                          have n2_ := aM (Kd.R_elder' (by have X_ := HO_305000.out; exact TR) (Kd.R_base ho0) hb)
                          have n3_ := aM (Kd.R_elder' (by have X_ := HO_309000.out; exact TR) (Kd.R_base ho0) hb)
                          have n4_ := aM (Kd.R_elder' (by have X_ := HO_315000.out; exact TR) (Kd.R_base ho0) hb)
                          have n5_ := aM (Kd.R_lower (Kd.R_new' (Kd.R_new' (Kd.R_new' (Kd.R_new' (Kd.R_new' ho0 (Kd.R_lt (by have X_ := HO_11.out; exact TR))) (Kd.R_lt (by have X_ := HO_300000.out; exact TR))) (Kd.R_lt (by have X_ := HO_305000.out; exact TR))) (Kd.R_lt (by have X_ := HO_309000.out; exact TR))) (Kd.R_lt (by have X_ := HO_315000.out; exact TR))) (below_size TB))
                          have n6_ := aM (blk_below (g := gb299) (o := .cells #[.slice Ao11 t296.length co11] 26 (0, 0)) TK hb)
                          have n7_ := aM (blk_below (g := gb304) (o := .cells #[.slice Ao15 t300.length co15] 26 (0, 0)) TK hb)
                          have n8_ := aM (blk_below (g := gb308) (o := .cells #[.slice Ao20 t305.length co20] 26 (0, 0)) TK hb)
                          have n9_ := aM (blk_below (g := gb314) (o := .cells #[.slice Ao26 t309.length co26] 26 (0, 0)) TK hb)
                          have n10_ := aM (below_step TB hb)
                          clear HO_11
                          clear HO_300000
                          clear HO_305000
                          clear HO_309000
                          clear HO_315000
                          clear BK299
                          clear BK304
                          clear BK308
                          clear BK314
                          clear HB
                          have HO_11 := n0_
                          have HO_300000 := n1_
                          have HO_305000 := n2_
                          have HO_309000 := n3_
                          have HO_315000 := n4_
                          have HO361 := n5_
                          have BK299 := n6_
                          have BK304 := n7_
                          have BK308 := n8_
                          have BK314 := n9_
                          have HB := n10_
                          clear n0_ n1_ n2_ n3_ n4_ n5_ n6_ n7_ n8_ n9_ n10_
                          (try clear hb)
                          (try clear hb2)
                          (try clear hk)
                          (try clear hi)
                          (try clear ho0)
                          obtain ⟨Ao113, co113, eo113⟩ := Kd.R_slice HO361.out
                          (first | subst eo113 | (injection eo113 with f1_ f2_ f3_; have f4_ := f1_.symm; have f5_ := f3_.symm; clear f1_ f2_ f3_; subst f4_; subst f5_))
                          refine hK.out _ _ ⟨(blk_cell BK299.out 0).trans rfl, HS1_, HS2_⟩ (fun hHeld => ?_)
                          clear hK K
                          refine nR ?_
                          refine pO 16 (some 154) (fun K hK => ?_)
                          refine gG Try.func22 #[.slice Ao113 t359.length co113, .int .i64 x10_2] ?_
                          with_reducible refine (laws_in.calls k4 _ _ t359 x10_2 true _ ?side1 ?side2 A107.out).mono ?_
                          (case side1 => have X_ := (Kd.R_reads' HO361.out).2.2; exact TC)
                          (case side2 => exact (Kd.R_reads' HO361.out).2.1)
                          rintro e w' ⟨rfl, ⟨nd, rfl⟩⟩
                          refine ⟨_, rfl, ?_⟩
                          refine hK.out _ _ ⟨(blk_cell BK299.out 0).trans rfl, hHeld.2.1, hHeld.2.2⟩ (fun hHeld => ?_)
                          clear hK K
                          refine nR ?_
                          refine pP 17 (some 155) ?_
                          refine pP 18 (some 156) ?_
                          refine done_ (done_of HT_.out (by kernel_rfl)) ?_
                          try go_wp2
                          go_roundg k4
                          case measure => have := HJ7.out; have := HK2.out; have := HJ76.out; have := HK4.out; omega
                          case rel => exact ⟨(wrap64 (x12_4 + 1)), (by first | rfl | (simp; done) | (simp [*]; done)), H', ⟨by have := HJ7.out; have := HK2.out; have := HJ76.out; have := HK4.out; omega⟩, ⟨by (with_reducible repeat (first | apply Kd.R_alloc | apply Kd.R_drewN | apply Kd.R_drew)); exact Kd.R_mono HO_11.out (fun _ hk => ⟨hk.1.1, ⟨hk.1.2.1, ⟨hk.1.2.2.1, hk.1.2.2.2⟩⟩⟩)⟩, ⟨by (with_reducible repeat (first | apply Kd.R_alloc | apply Kd.R_drewN | apply Kd.R_drew)); exact Kd.R_mono HO_300000.out (fun _ hk => ⟨hk.1.1, ⟨hk.1.2.1, ⟨hk.1.2.2.1, hk.1.2.2.2⟩⟩⟩)⟩, ⟨by (with_reducible repeat (first | apply Kd.R_alloc | apply Kd.R_drewN | apply Kd.R_drew)); exact Kd.R_mono HO_305000.out (fun _ hk => ⟨hk.1.1, ⟨hk.1.2.1, ⟨hk.1.2.2.1, hk.1.2.2.2⟩⟩⟩)⟩, ⟨by (with_reducible repeat (first | apply Kd.R_alloc | apply Kd.R_drewN | apply Kd.R_drew)); exact Kd.R_mono HO_309000.out (fun _ hk => ⟨hk.1.1, ⟨hk.1.2.1, ⟨hk.1.2.2.1, hk.1.2.2.2⟩⟩⟩)⟩, ⟨by (with_reducible repeat (first | apply Kd.R_alloc | apply Kd.R_drewN | apply Kd.R_drew)); exact Kd.R_mono HO_315000.out (fun _ hk => ⟨hk.1.1, ⟨hk.1.2.1, ⟨hk.1.2.2.1, hk.1.2.2.2⟩⟩⟩)⟩, ⟨TK⟩, ⟨TK⟩, ⟨TK⟩, ⟨TK⟩, ⟨TB⟩⟩
                        · replace c105 := Bool.eq_false_iff.mpr c105
                          subst c105
                          replace H := ifF H
                          exact absurd H (by simp)
                      · rw [if_neg c102] at H
                        have c102b0 : decide (x12_4 < (t346.length : Int)) = false := decide_eq_false c102
                        clear c102
                        have H' := aM H
                        clear H
                        obtain ⟨Ao114, co114, eo114⟩ := Kd.R_slice HO_11.out
                        subst eo114
                        go_wp2
                        go_roundg k4
                        case measure => have := HJ7.out; have := HK2.out; have := HJ76.out; have := HK4.out; omega
                        case rel => exact ⟨(wrap64 (x10_2 + 1)), (by first | rfl | (simp; done) | (simp [*]; done)), H', ⟨by have := HJ7.out; have := HK2.out; have := HJ76.out; have := HK4.out; omega⟩, ⟨by (with_reducible repeat (first | apply Kd.R_alloc | apply Kd.R_drewN | apply Kd.R_drew)); exact Kd.R_mono HO_300000.out (fun _ hk => ⟨hk.2.1, ⟨hk.2.2.1, hk.2.2.2⟩⟩)⟩, ⟨by (with_reducible repeat (first | apply Kd.R_alloc | apply Kd.R_drewN | apply Kd.R_drew)); exact Kd.R_mono HO_305000.out (fun _ hk => ⟨hk.2.1, ⟨hk.2.2.1, hk.2.2.2⟩⟩)⟩, ⟨by (with_reducible repeat (first | apply Kd.R_alloc | apply Kd.R_drewN | apply Kd.R_drew)); exact Kd.R_mono HO_309000.out (fun _ hk => ⟨hk.2.1, ⟨hk.2.2.1, hk.2.2.2⟩⟩)⟩, ⟨by (with_reducible repeat (first | apply Kd.R_alloc | apply Kd.R_drewN | apply Kd.R_drew)); exact Kd.R_mono HO_315000.out (fun _ hk => ⟨hk.2.1, ⟨hk.2.2.1, hk.2.2.2⟩⟩)⟩, ⟨TK⟩, ⟨TK⟩, ⟨TK⟩, ⟨TK⟩, ⟨TB⟩⟩
            · rw [if_neg c75] at H
              have c75b0 : decide (x10_2 < (t296.length : Int)) = false := decide_eq_false c75
              clear c75
              replace H := bE H
              obtain ⟨t343, A115, H⟩ := H
              obtain rfl := Option.some.inj H
              have hnb116 := NB299_304.out
              have hnc116 := NB304_299.out
              have hnb117 := NB299_308.out
              have hnc117 := NB308_299.out
              have hnb118 := NB299_314.out
              have hnc118 := NB314_299.out
              have hcz119_0 : wr.cell? ⟨gb299, 0, none⟩ = some (.slice Ao11 t296.length co11) := (blk_cell BK299.out 0).trans rfl
              have hfz119_0 := blk_frozen BK299.out 0
              try go_wp2
              replace HO_300000 := aM (Kd.R_drew HO_300000.out)
              replace HO_305000 := aM (Kd.R_drew HO_305000.out)
              replace HO_309000 := aM (Kd.R_drew HO_309000.out)
              replace HO_315000 := aM (Kd.R_drew HO_315000.out)
              replace BK299 := aM (blk_drew BK299.out)
              replace BK304 := aM (blk_drew BK304.out)
              replace BK308 := aM (blk_drew BK308.out)
              replace BK314 := aM (blk_drew BK314.out)
              replace HB := aM (below_drew1 HB.out)
              refine start_ (n := 9) (S := fun w' => w'.cell? ⟨gb299, 0, none⟩ = some (.slice Ao11 t296.length co11)) (ds := []) (Array.replicate 9 false) (by kernel_rfl) rfl rfl ((blk_cell BK299.out 0).trans rfl) (fun hHeld => ?_); refine with_tabW laws_FnTrees.tab20 laws_FnTrees.bits20 (fun HT_ HW_ => ?_)
              generalize wr.drew = w120 at HO_300000 HO_305000 HO_309000 HO_315000 BK299 BK304 BK308 BK314 HB hHeld ⊢
              refine pP 3 (some 160) ?_
              refine pT 0 (some 157) ?_
              refine pT 4 (some 161) ?_
              refine pP 5 (some 162) ?_
              refine pP 6 (some 163) ?_
              refine pO 1 (some 158) (fun K hK => ?_)
              refine gG Try.func14 #[.agg #[.slice Ao11 t296.length co11], .int .i64 0] ?_
              with_reducible refine (impl_BelowOf.calls k2 _ _ t296 0 t343 _ ?side1 ?side2 A115.out).mono ?_
              (case side1 => have X_ := (Kd.R_reads' HO_300000.out).2.2; exact TC)
              (case side2 => exact (Kd.R_reads' HO_300000.out).2.1)
              rintro e w121 ⟨v344, rfl, ho0, hb⟩
              refine ⟨_, rfl, ?_⟩
              have n0_ := aM (Kd.R_elder' (by have X_ := HO_300000.out; exact TR) (Kd.R_base ho0) hb)
              have n1_ := aM (Kd.R_elder' (by have X_ := HO_305000.out; exact TR) (Kd.R_base ho0) hb)
              have n2_ := aM (Kd.R_elder' (by have X_ := HO_309000.out; exact TR) (Kd.R_base ho0) hb)
              have n3_ := aM (Kd.R_elder' (by have X_ := HO_315000.out; exact TR) (Kd.R_base ho0) hb)
              have n4_ := aM (Kd.R_lower (Kd.R_new' (Kd.R_new' (Kd.R_new' (Kd.R_new' ho0 (Kd.R_lt (by have X_ := HO_300000.out; exact TR))) (Kd.R_lt (by have X_ := HO_305000.out; exact TR))) (Kd.R_lt (by have X_ := HO_309000.out; exact TR))) (Kd.R_lt (by have X_ := HO_315000.out; exact TR))) (below_size TB))
              have n5_ := aM (blk_below (g := gb299) (o := .cells #[.slice Ao11 t296.length co11] 26 (0, 0)) TK hb)
              have n6_ := aM (blk_below (g := gb304) (o := .cells #[.slice Ao15 t300.length co15] 26 (0, 0)) TK hb)
              have n7_ := aM (blk_below (g := gb308) (o := .cells #[.slice Ao20 t305.length co20] 26 (0, 0)) TK hb)
              have n8_ := aM (blk_below (g := gb314) (o := .cells #[.slice Ao26 t309.length co26] 26 (0, 0)) TK hb)
              have n9_ := aM (below_step TB hb)
              clear HO_300000
              clear HO_305000
              clear HO_309000
              clear HO_315000
              clear BK299
              clear BK304
              clear BK308
              clear BK314
              clear HB
              have HO_300000 := n0_
              have HO_305000 := n1_
              have HO_309000 := n2_
              have HO_315000 := n3_
              have HO345 := n4_
              have BK299 := n5_
              have BK304 := n6_
              have BK308 := n7_
              have BK314 := n8_
              have HB := n9_
              clear n0_ n1_ n2_ n3_ n4_ n5_ n6_ n7_ n8_ n9_
              (try clear hb)
              (try clear hb2)
              (try clear hk)
              (try clear hi)
              (try clear ho0)
              obtain ⟨Ao122, co122, eo122⟩ := Kd.R_slice HO345.out
              (first | subst eo122 | (injection eo122 with f1_ f2_ f3_; have f4_ := f1_.symm; have f5_ := f3_.symm; clear f1_ f2_ f3_; subst f4_; subst f5_))
              refine hK.out _ _ ((blk_cell BK299.out 0).trans rfl) (fun hHeld => ?_)
              clear hK K
              refine nR ?_
              refine pP 2 (some 159) ?_
              refine pP 7 (some 164) ?_
              refine pP 8 (some 2) ?_
              refine done_ (done_of HT_.out (by kernel_rfl)) ?_
              try go_wp2
              go_ret
              exact ⟨by first | rfl | (simp [errW_none, errW_some] <;> rfl) | (simp [*, errW_none, errW_some] <;> rfl), TB⟩

end Go.Proofs.Ytmaeahbiiiifmaa.Q
