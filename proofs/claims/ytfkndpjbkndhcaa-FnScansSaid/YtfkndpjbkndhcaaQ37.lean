/- Functions of the program as plain Lean functions, and that a call of each comes to what its function tells. Written by a program of this seat. -/
import Derived.Test.YtfkndpjbkndhcaaQ0
import Derived.Test.YtfkndpjbkndhcaaQ2
import Derived.Test.YtfkndpjbkndhcaaQ5
import Derived.Test.YtfkndpjbkndhcaaQ6
import Derived.Test.YtfkndpjbkndhcaaQ10
import Derived.Test.YtfkndpjbkndhcaaQ18
import Derived.Test.YtfkndpjbkndhcaaQ20
import Derived.Test.YtfkndpjbkndhcaaQ23
import Derived.Test.YtfkndpjbkndhcaaQ28
import Derived.Test.YtfkndpjbkndhcaaQ31
import Derived.Test.YtfkndpjbkndhcaaQ33
import Derived.Test.YtfkndpjbkndhcaaQ34
import Derived.Test.YtfkndpjbkndhcaaQ36
namespace Go.Proofs.Ytfkndpjbkndhcaa.Q
open Go.RowKit Go.Proofs.YtfkndpjbkndhcaaW.PrintWords Go.Proofs.YtfkndpjbkndhcaaW.PrintLast Go.Proofs.YtfkndpjbkndhcaaW.PrintMore
attribute [local go_sem] max2_int min2_int max_two min_two max_three min_three max_four min_four   -- for this text's walks alone
set_option linter.unusedVariables false
set_option linter.unusedSimpArgs false

/-! ### laws_FnScans: function 5 -/
mutual
def laws_FnScans.j0 : Nat → List Int → List Int → Int → List Int → Bool → Int → Int → Int → List (S48) → Option (Bool)
  | 0, _, _, _, _, _, _, _, _, _ => none
  | k + 1, x3, x4, x5, x7, x105, x859000, x859001, x859002, x859003 => if x105 = true then (none) else (laws_FnScans.l0 k x3 x4 x5 x7 0 x859000 x859001 x859002 x859003)
def laws_FnScans.l0 : Nat → List Int → List Int → Int → List Int → Int → Int → Int → Int → List (S48) → Option (Bool)
  | 0, _, _, _, _, _, _, _, _, _ => none
  | k + 1, x3, x4, x5, x7, x16, x859000, x859001, x859002, x859003 => if x16 < (x7.length : Int) then ((impl_BlockAt.f x4 x5 x16).bind fun bt904 => (laws_FnScans.l1 k x3 x4 x5 x7 x16 bt904.1 0 x859000 x859001 x859002 x859003)) else ((impl_Found.f k x3 x859000 x859001 x859002 x859003).bind fun t929 => ((impl_Lacking.f k x3 x859000 x859001 x859002 x859003).bind fun t930 => ((impl_Union.f t929 t930).bind fun t931 => ((impl_AllParts.f x859000 x859001 x859002 x859003).bind fun t932 => (if t931 = t932 then ((impl_Lacking.f k x4 x859000 x859001 x859002 x859003).bind fun t933 => (some (t933 == 0))) else (none))))))
def laws_FnScans.l1 : Nat → List Int → List Int → Int → List Int → Int → List Int → Int → Int → Int → Int → List (S48) → Option (Bool)
  | 0, _, _, _, _, _, _, _, _, _, _, _ => none
  | k + 1, x3, x4, x5, x7, x16, x17, x19, x859000, x859001, x859002, x859003 => if (wrap64 (x19 + (x17.length : Int))) ≤ (x3.length : Int) then (if 0 ≤ x19 then (if x19 ≤ (wrap64 (x19 + (x17.length : Int))) then ((laws_same.f k ((x3.take ((wrap64 (x19 + (x17.length : Int))) : Int).toNat).drop (x19 : Int).toNat) x17).bind fun t912 => (if t912 = true then (if 0 ≤ x16 then (if x16 < (x7.length : Int) then (if (rd x7 x16) < 0 then (none) else (if (rd x7 x16) > x19 then (none) else (laws_FnScans.l1 k x3 x4 x5 x7 x16 x17 (wrap64 (x19 + 1)) x859000 x859001 x859002 x859003))) else (none)) else (none)) else (laws_FnScans.l1 k x3 x4 x5 x7 x16 x17 (wrap64 (x19 + 1)) x859000 x859001 x859002 x859003))) else (none)) else (none)) else (if 0 ≤ x16 then (if x16 < (x7.length : Int) then (if (rd x7 x16) ≥ 0 then (if 0 ≤ (rd x7 x16) then (if (rd x7 x16) ≤ (wrap64 ((rd x7 x16) + (x17.length : Int))) then (if (wrap64 ((rd x7 x16) + (x17.length : Int))) ≤ (x3.length : Int) then ((laws_same.f k ((x3.take ((wrap64 ((rd x7 x16) + (x17.length : Int))) : Int).toNat).drop ((rd x7 x16) : Int).toNat) x17).bind fun t922 => (if t922 = true then ((impl_Found.f k x3 x859000 x859001 x859002 x859003).bind fun t923 => ((impl_InSet.f t923 x16).bind fun t924 => (if (t924 != (decide ((rd x7 x16) ≥ 0))) = true then (none) else (laws_FnScans.l0 k x3 x4 x5 x7 (wrap64 (x16 + 1)) x859000 x859001 x859002 x859003)))) else (none))) else (none)) else (none)) else (none)) else ((impl_Found.f k x3 x859000 x859001 x859002 x859003).bind fun t926 => ((impl_InSet.f t926 x16).bind fun t927 => (if (t927 != (decide ((rd x7 x16) ≥ 0))) = true then (none) else (laws_FnScans.l0 k x3 x4 x5 x7 (wrap64 (x16 + 1)) x859000 x859001 x859002 x859003))))) else (none)) else (none))
end
def laws_FnScans.f (k : Nat) (l0 : List Int) : Option (Bool) := (laws_big.f l0).bind fun t844 => (if t844 = true then (some true) else ((spec_DrawOld.f k l0).bind fun bt845 => ((impl_ManOf.f k 1 bt845.2.1 bt845.2.2).bind fun bt852 => ((impl_Places.f k bt845.1 bt852.1 bt852.2.1 bt852.2.2.1 bt852.2.2.2).bind fun t859 => ((spec_DrawFindSum.f k l0).bind fun bt862 => ((spec_DrawFound.f k l0).bind fun bt869 => ((spec_DrawPlaceOf.f k l0).bind fun bt879 => ((impl_FindSum.f k bt862.1 bt862.2.1 bt862.2.2.1 bt862.2.2.2).bind fun t890 => ((spec_FindSum.f k bt862.1 bt862.2.1 bt862.2.2.1 bt862.2.2.2).bind fun t891 => (if t890 = t891 then ((impl_Found.f k bt869.1 bt869.2.1 bt869.2.2.1 bt869.2.2.2.1 bt869.2.2.2.2).bind fun t892 => ((spec_Found.f k bt869.1 bt869.2.1 bt869.2.2.1 bt869.2.2.2.1 bt869.2.2.2.2).bind fun t893 => (if t892 = t893 then ((impl_Lacking.f k bt869.1 bt869.2.1 bt869.2.2.1 bt869.2.2.2.1 bt869.2.2.2.2).bind fun t894 => ((spec_Lacking.f k bt869.1 bt869.2.1 bt869.2.2.1 bt869.2.2.2.1 bt869.2.2.2.2).bind fun t895 => (if t894 = t895 then ((impl_BytesLacking.f k bt869.1 bt869.2.1 bt869.2.2.1 bt869.2.2.2.1 bt869.2.2.2.2).bind fun t896 => ((spec_BytesLacking.f k bt869.1 bt869.2.1 bt869.2.2.1 bt869.2.2.2.1 bt869.2.2.2.2).bind fun t897 => (if t896 = t897 then ((impl_PlaceOf.f k bt879.1 bt879.2.1 bt879.2.2.1 bt879.2.2.2.1 bt879.2.2.2.2.1 bt879.2.2.2.2.2).bind fun t898 => ((spec_PlaceOf.f k bt879.1 bt879.2.1 bt879.2.2.1 bt879.2.2.2.1 bt879.2.2.2.2.1 bt879.2.2.2.2.2).bind fun t899 => (if t898 = t899 then ((spec_Places.f k bt845.1 bt852.1 bt852.2.1 bt852.2.2.1 bt852.2.2.2).bind fun t900 => ((laws_sameInts.f k t859 t900).bind fun t903 => (laws_FnScans.j0 k bt845.1 bt845.2.1 bt845.2.2 t859 (!t903) bt852.1 bt852.2.1 bt852.2.2.1 bt852.2.2.2))) else (none)))) else (none)))) else (none)))) else (none)))) else (none)))))))))))
theorem laws_FnScans.mono_l : ∀ k, (∀ y0 y1 y2 y3 y4 y5 y6 y7 y8, LeO (laws_FnScans.j0 k y0 y1 y2 y3 y4 y5 y6 y7 y8) (laws_FnScans.j0 (k + 1) y0 y1 y2 y3 y4 y5 y6 y7 y8)) ∧ (∀ y0 y1 y2 y3 y4 y5 y6 y7 y8, LeO (laws_FnScans.l0 k y0 y1 y2 y3 y4 y5 y6 y7 y8) (laws_FnScans.l0 (k + 1) y0 y1 y2 y3 y4 y5 y6 y7 y8)) ∧ (∀ y0 y1 y2 y3 y4 y5 y6 y7 y8 y9 y10, LeO (laws_FnScans.l1 k y0 y1 y2 y3 y4 y5 y6 y7 y8 y9 y10) (laws_FnScans.l1 (k + 1) y0 y1 y2 y3 y4 y5 y6 y7 y8 y9 y10))
  | 0 => ⟨fun _ _ _ _ _ _ _ _ _ r h => by simp [laws_FnScans.j0] at h, fun _ _ _ _ _ _ _ _ _ r h => by simp [laws_FnScans.l0] at h, fun _ _ _ _ _ _ _ _ _ _ _ r h => by simp [laws_FnScans.l1] at h⟩
  | k + 1 => by
    have m0_ := @impl_BytesLacking.mono
    have m1_ := @impl_FindSum.mono
    have m2_ := @impl_Found.mono
    have m3_ := @impl_Lacking.mono
    have m4_ := @impl_ManOf.mono
    have m5_ := @impl_PlaceOf.mono
    have m6_ := @impl_Places.mono
    have m7_ := @laws_same.mono
    have m8_ := @laws_sameInts.mono
    have m9_ := @spec_BytesLacking.mono
    have m10_ := @spec_DrawFindSum.mono
    have m11_ := @spec_DrawFound.mono
    have m12_ := @spec_DrawOld.mono
    have m13_ := @spec_DrawPlaceOf.mono
    have m14_ := @spec_FindSum.mono
    have m15_ := @spec_Found.mono
    have m16_ := @spec_Lacking.mono
    have m17_ := @spec_PlaceOf.mono
    have m18_ := @spec_Places.mono
    obtain ⟨ih0, ih1, ih2⟩ := laws_FnScans.mono_l k
    refine ⟨?_, ?_, ?_⟩
    · intro y0 y1 y2 y3 y4 y5 y6 y7 y8
      unfold laws_FnScans.j0
      exact LM
    · intro y0 y1 y2 y3 y4 y5 y6 y7 y8
      unfold laws_FnScans.l0
      exact LM
    · intro y0 y1 y2 y3 y4 y5 y6 y7 y8 y9 y10
      unfold laws_FnScans.l1
      exact LM
theorem laws_FnScans.mono : ∀ a0 k, LeO (laws_FnScans.f k a0) (laws_FnScans.f (k + 1) a0) := by
  intro a0 k
  have m0_ := @impl_BytesLacking.mono
  have m1_ := @impl_FindSum.mono
  have m2_ := @impl_Found.mono
  have m3_ := @impl_Lacking.mono
  have m4_ := @impl_ManOf.mono
  have m5_ := @impl_PlaceOf.mono
  have m6_ := @impl_Places.mono
  have m7_ := @laws_same.mono
  have m8_ := @laws_sameInts.mono
  have m9_ := @spec_BytesLacking.mono
  have m10_ := @spec_DrawFindSum.mono
  have m11_ := @spec_DrawFound.mono
  have m12_ := @spec_DrawOld.mono
  have m13_ := @spec_DrawPlaceOf.mono
  have m14_ := @spec_FindSum.mono
  have m15_ := @spec_Found.mono
  have m16_ := @spec_Lacking.mono
  have m17_ := @spec_PlaceOf.mono
  have m18_ := @spec_Places.mono
  obtain ⟨ih0, ih1, ih2⟩ := laws_FnScans.mono_l k
  unfold laws_FnScans.f
  exact LM
def laws_FnScans.T9 : Bool × List (List Nat × List Nat) := (true, [([], []), ([], []), ([], []), ([0, 1, 2], [0, 1, 2]), ([], []), ([], []), ([], []), ([4, 5, 6, 3], [4, 5, 6]), ([3, 7], [3, 7]), ([8, 7], [8]), ([9], [9]), ([9], [9]), ([10, 11, 9, 9], [9, 10, 11]), ([9], [9]), ([9], [9]), ([13, 14, 12, 9], [9, 13, 14]), ([12, 15, 9], [9, 12, 15]), ([9, 16], [9, 16]), ([17, 15], [17]), ([18], [18]), ([18], [18]), ([19, 20, 18, 18], [18, 19, 20]), ([18], [18]), ([18], [18]), ([22, 23, 21, 18], [18, 22, 23]), ([21, 24, 18], [18, 21, 24]), ([18, 25], [18, 25]), ([26, 24], [26]), ([27], [27]), ([27], [27]), ([28, 29, 27, 27], [27, 28, 29]), ([27], [27]), ([27], [27]), ([31, 32, 30, 27], [27, 31, 32]), ([30, 33, 27], [27, 30, 33]), ([27, 34], [27, 34]), ([35, 33], [35]), ([36], [36]), ([36], [36]), ([36], [36]), ([37, 38, 39, 36, 36], [36, 37, 38, 39]), ([36], [36]), ([36], [36]), ([36], [36]), ([41, 42, 43, 40, 36], [36, 41, 42, 43]), ([40, 44, 36], [36, 40, 44]), ([36, 45], [36, 45]), ([46, 44], [46]), ([47], [47]), ([47], [47]), ([47], [47]), ([49, 50, 47, 47], [47, 49, 50]), ([48, 51, 51, 47], [47, 48, 51]), ([52, 47], [47, 52]), ([47, 53], [47, 53])])
def laws_FnScans.B9 : List Nat := [0, 0, 0, 7, 0, 0, 0, 127, 255, 511, 1023, 1023, 4095, 1023, 1023, 32767, 65535, 131071, 262143, 524287, 524287, 2097151, 524287, 524287, 16777215, 33554431, 67108863, 134217727, 268435455, 268435455, 1073741823, 268435455, 268435455, 8589934591, 17179869183, 34359738367, 68719476735, 137438953471, 137438953471, 137438953471, 1099511627775, 137438953471, 137438953471, 137438953471, 17592186044415, 35184372088831, 70368744177663, 140737488355327, 281474976710655, 281474976710655, 281474976710655, 1970324836974591, 4503599627370495, 9007199254740991, 18014398509481983]
theorem laws_FnScans.tab9 : rtab .any (opsOf Try.f5 9) = laws_FnScans.T9 := by kernel_rfl
theorem laws_FnScans.bits9 : waitsOk laws_FnScans.T9.2 laws_FnScans.B9 = true := by kernel_rfl
def laws_FnScans.T20 : Bool × List (List Nat × List Nat) := (true, [([], []), ([], []), ([0, 1], [0, 1]), ([2], [2]), ([3], [3]), ([4], [4]), ([5], [5]), ([5], [5]), ([5], [5]), ([7, 8, 5], [5, 7, 8]), ([9, 5], [5, 9]), ([5], [5]), ([5], [5]), ([11, 12, 5], [5, 11, 12]), ([13, 5], [5, 13]), ([5], [5]), ([15, 5], [5, 15]), ([14, 16, 5], [5, 14, 16]), ([6, 10, 17, 5], [5, 6, 10, 17]), ([5], [5]), ([18, 19, 5, 5], [5, 18, 19]), ([20, 5], [5, 20]), ([5, 21], [5, 21]), ([22, 20], [22]), ([23], [23]), ([23], [23]), ([24, 25, 23, 23], [23, 24, 25]), ([23], [23]), ([26, 27, 26, 23], [23, 26, 27]), ([23], [23]), ([23], [23]), ([29, 30, 23], [23, 29, 30]), ([31, 23], [23, 31]), ([32, 23], [23, 32]), ([28, 33, 23], [23, 28, 33]), ([23, 34], [23, 34])])
def laws_FnScans.B20 : List Nat := [0, 0, 3, 7, 15, 31, 63, 63, 63, 447, 959, 63, 63, 6207, 14399, 63, 32831, 129087, 262143, 63, 1048575, 2097151, 4194303, 8388607, 16777215, 16777215, 67108863, 16777215, 268435455, 16777215, 16777215, 1627389951, 3774873599, 8069840895, 17179869183, 34359738367]
theorem laws_FnScans.tab20 : rtab .any (opsOf Try.f5 20) = laws_FnScans.T20 := by kernel_rfl
theorem laws_FnScans.bits20 : waitsOk laws_FnScans.T20.2 laws_FnScans.B20 = true := by kernel_rfl
def laws_FnScans.T22 : Bool × List (List Nat × List Nat) := (true, [([], []), ([], []), ([0, 1], [0, 1]), ([], []), ([], []), ([3, 4, 2], [3, 4]), ([2, 5, 5], [2, 5]), ([], []), ([7, 6], [7]), ([6, 8], [6, 8]), ([9, 8], [9]), ([10], [10]), ([10], [10]), ([11, 12, 10, 10], [10, 11, 12]), ([13, 10], [10, 13]), ([10, 14], [10, 14]), ([15, 13, 0, 1, 2, 3, 4, 5, 6, 7, 8, 9, 10, 11, 12, 13, 14, 15], [15])])
def laws_FnScans.B22 : List Nat := [0, 0, 3, 0, 0, 31, 63, 0, 255, 511, 1023, 2047, 2047, 8191, 16383, 32767, 65535]
theorem laws_FnScans.tab22 : rtab .any (opsOf Try.f5 22) = laws_FnScans.T22 := by kernel_rfl
theorem laws_FnScans.bits22 : waitsOk laws_FnScans.T22.2 laws_FnScans.B22 = true := by kernel_rfl
set_option maxHeartbeats 40000000 in
set_option maxRecDepth 100000 in
theorem laws_FnScans.calls (k : Nat) (A0 : Option Addr) (c0 : Nat) (l0 : List Int) (r : Bool) (w : World) (hr0 : Kd.C (Kd.int .u8) w A0 l0.length l0) (hc0 : l0.length ≤ c0) (h : laws_FnScans.f k l0 = some r) :
  Calls Try.prog 5 #[.slice A0 l0.length c0] w fun e w' => e = .returned (.bool r) ∧ Below w.heap.size w w' := by
 have hu28 := Try.underlying28
 have hu48 := Try.underlying48
 have HR0 := aM hr0
 have HC0 := aM hc0
 clear hr0 hc0
 have HB := aM (Below.refl w.heap.size w)
 have H := h
 clear h
 unfold laws_FnScans.f at H
 replace H := bE H
 obtain ⟨t844, A2, H⟩ := H
 by_cases c3 : t844 = true
 ·subst c3
  replace H := ifT H
  obtain rfl := Option.some.inj H
  go_enter Try.func5, Try.ntmps5
  go_wp2_with (first | ((with_reducible refine gate_callee (f := 8) rfl ?_); refine gL (some 21) Try.func8 #[.slice A0 l0.length c0] ?_; (with_reducible refine (laws_big.calls _ _ l0 true _ ?side1 ?side2 A2.out).mono ?_); (case side1 => have X_ := HR0.out; exact TC); (case side2 => exact HC0.out); rintro e w' ⟨rfl, ⟨nd, rfl⟩⟩; refine ⟨_, rfl, ?_⟩))
  go_ret
  exact ⟨by first | rfl | (simp [errW_none, errW_some] <;> rfl) | (simp [*, errW_none, errW_some] <;> rfl), TB⟩
 ·replace c3 := Bool.eq_false_iff.mpr c3
  subst c3
  replace H := ifF H
  replace H := bE H
  obtain ⟨⟨av, aS, a5⟩, A4, H⟩ := H
  dsimp only at H
  replace H := bE H
  obtain ⟨⟨aw, ax, az, ai⟩, A5, H⟩ := H
  dsimp only at H
  replace H := bE H
  obtain ⟨ar, A6, H⟩ := H
  replace H := bE H
  obtain ⟨⟨bd, aN, aQ, bO⟩, A7, H⟩ := H
  dsimp only at H
  replace H := bE H
  obtain ⟨⟨aW, aJ, aK, aL, au⟩, A8, H⟩ := H
  dsimp only at H
  replace H := bE H
  obtain ⟨⟨bl, aD, aE, aG, ak, bP⟩, A9, H⟩ := H
  dsimp only at H
  have cj := aM H
  clear H
  go_enter Try.func5, Try.ntmps5
  go_upto_region 9 with (first | ((with_reducible refine gate_callee (f := 8) rfl ?_); refine gL (some 21) Try.func8 #[.slice A0 l0.length c0] ?_; (with_reducible refine (laws_big.calls _ _ l0 false _ ?side1 ?side2 A2.out).mono ?_); (case side1 => have X_ := HR0.out; exact TC); (case side2 => exact HC0.out); rintro e w' ⟨rfl, ⟨nd, rfl⟩⟩; refine ⟨_, rfl, ?_⟩) | ((with_reducible refine gate_callee (f := 18) rfl ?_); refine gL (some 24) Try.func18 #[.slice A0 l0.length c0] ?_; (with_reducible refine (spec_DrawOld.calls k _ _ l0 av aS a5 _ ?side1 ?side2 A4.out).mono ?_); (case side1 => have X_ := HR0.out; exact TC); (case side2 => exact HC0.out); rintro e w11 ⟨v848, v850, rfl, ho0, ho1, hb⟩; refine ⟨_, rfl, ?_⟩; have aj := aM (Kd.R_lower ho0 (below_size TB)); have al := aM (Kd.R_lower ho1 (below_size TB)); replace HB := aM (below_step TB hb); clear ho0 ho1 hb; obtain ⟨Ao12, co12, eo12⟩ := Kd.R_slice al.out; subst eo12) | ((with_reducible refine gate_callee (f := 10) rfl ?_); refine gL (some 30) Try.func10 #[.int .i64 1, .slice Ao12 aS.length co12, .int .i64 a5] ?_; (with_reducible refine (impl_ManOf.calls k 1 _ _ aS a5 aw ax az ai _ ?side1 ?side2 A5.out).mono ?_); (case side1 => have X_ := (Kd.R_reads' al.out).2.2; exact TC); (case side2 => exact (Kd.R_reads' al.out).2.1); rintro e w13 ⟨v856, rfl, ho0, hb⟩; refine ⟨_, rfl, ?_⟩; have am := aM (Kd.R_lower ho0 (below_size TB)); replace aj := aM (Kd.R_below (by have X_ := aj.out; exact TR) hb); replace al := aM (Kd.R_below (by have X_ := al.out; exact TR) hb); replace HB := aM (below_step TB hb); clear ho0 hb) | ((with_reducible refine gate_dst (N := 6) rfl ?_); (try (refine gate_guard (by rfl) ?_; dsimp only)); refine gBx 6 #[.int .i64 0, .int .i64 0, .int .i64 0, .slice none 0 0] 28 ?_; intro gb858 hg w14 hbox hb; have aa := aM (hbox); have GW858 := aM ((by rw [hg]; exact (below_size TB) : w.heap.size ≤ gb858)); have GE858 := aM ((by rw [hg]; exact (below_size TB) : w.heap.size ≤ gb858)); replace aj := aM (Kd.R_below (by have X_ := aj.out; exact TR) hb); replace al := aM (Kd.R_below (by have X_ := al.out; exact TR) hb); replace am := aM (Kd.R_below (by have X_ := am.out; exact TR) hb); replace HB := aM (below_step TB hb); clear hb hbox hg; obtain ⟨hcz15_0, hcz15_1, hcz15_2, hcz15_3⟩ := cz4 aa.out; obtain ⟨hfz15_0, hfz15_1, hfz15_2, hfz15_3⟩ := fz4 aa.out; obtain ⟨Ao16, co16, eo16⟩ := Kd.R_slice am.out; subst eo16; obtain ⟨aV, co17, eo17⟩ := Kd.R_slice aj.out; subst eo17) | ((with_reducible refine gate_callee (f := 23) rfl ?_); refine gL (some 33) Try.func23 #[.slice aV av.length co17, .agg #[.int .i64 aw, .int .i64 ax, .int .i64 az, .slice Ao16 ai.length co16]] ?_; (with_reducible refine (impl_Places.calls k _ _ av aw ax az _ _ ai ar _ ?side1 ?side2 ?side3 ?side4 A6.out).mono ?_); (case side1 => refine (Kd.R_reads' (e := 5) (base := w.heap.size) (ok := fun k_ => some k_ ≠ (.slice Ao12 aS.length co12 : Value).ownBlock) (n := av.length) (c := co17) ?_).2.2; exact (by (with_reducible repeat (first | apply Kd.R_alloc | apply Kd.R_drewN | apply Kd.R_drew)); exact (R_off (Kd.R_types aj.out aa.out (by decide)) TO))); (case side2 => exact (Kd.R_reads' aj.out).2.1); (case side3 => refine (Kd.R_reads' (e := 48) (base := w.heap.size) (ok := fun k_ => True) (n := ai.length) (c := co16) ?_).2.2; exact (by (with_reducible repeat (first | apply Kd.R_alloc | apply Kd.R_drewN | apply Kd.R_drew)); exact (R_off (Kd.R_types am.out aa.out (by decide)) TO))); (case side4 => exact (Kd.R_reads' am.out).2.1); rintro e w18 ⟨v860, rfl, ho0, hb⟩; refine ⟨_, rfl, ?_⟩; have aq := aM (Kd.R_lower ho0 (below_size TB)); replace aj := aM (Kd.R_below (by (with_reducible repeat (first | apply Kd.R_alloc | apply Kd.R_drewN | apply Kd.R_drew)); exact (R_off (Kd.R_types aj.out aa.out (by decide)) TO)) hb); replace al := aM (Kd.R_below (by (with_reducible repeat (first | apply Kd.R_alloc | apply Kd.R_drewN | apply Kd.R_drew)); exact (R_off (Kd.R_types al.out aa.out (by decide)) TO)) hb); replace am := aM (Kd.R_below (by (with_reducible repeat (first | apply Kd.R_alloc | apply Kd.R_drewN | apply Kd.R_drew)); exact (R_off (Kd.R_types am.out aa.out (by decide)) TO)) hb); replace aa := aM (blk_below (g := gb858) (o := .cells #[.int .i64 aw, .int .i64 ax, .int .i64 az, .slice Ao16 ai.length co16] 28 (0, 0)) (by (with_reducible repeat (first | refine blk_drewN ?_ _ | refine blk_drew ?_ | refine blk_alloc ?_ _)); refine blk_put (cs := #[.int .i64 aw, .int .i64 ax, .int .i64 az, .slice none 0 0]) ?_ 3 _ rfl; (with_reducible repeat (first | refine blk_drewN ?_ _ | refine blk_drew ?_ | refine blk_alloc ?_ _)); refine blk_put (cs := #[.int .i64 aw, .int .i64 ax, .int .i64 0, .slice none 0 0]) ?_ 2 _ rfl; (with_reducible repeat (first | refine blk_drewN ?_ _ | refine blk_drew ?_ | refine blk_alloc ?_ _)); refine blk_put (cs := #[.int .i64 aw, .int .i64 0, .int .i64 0, .slice none 0 0]) ?_ 1 _ rfl; (with_reducible repeat (first | refine blk_drewN ?_ _ | refine blk_drew ?_ | refine blk_alloc ?_ _)); refine blk_put (cs := #[.int .i64 0, .int .i64 0, .int .i64 0, .slice none 0 0]) ?_ 0 _ rfl; (with_reducible repeat (first | refine blk_drewN ?_ _ | refine blk_drew ?_ | refine blk_alloc ?_ _)); exact aa.out) hb); replace HB := aM (below_step TB hb); clear ho0 hb) | ((with_reducible refine gate_callee (f := 24) rfl ?_); refine gL (some 36) Try.func24 #[.slice A0 l0.length c0] ?_; (with_reducible refine (spec_DrawFindSum.calls k _ _ l0 bd aN aQ bO _ ?side1 ?side2 A7.out).mono ?_); (case side1 => have X_ := (Kd.C_below HR0.out HB.out); exact TC); (case side2 => exact HC0.out); rintro e w19 ⟨bK, rfl, ho0, hb⟩; refine ⟨_, rfl, ?_⟩; have ap := aM (Kd.R_lower (Kd.R_new' (Kd.R_new' ho0 (Kd.R_lt (by have X_ := aj.out; exact TR))) (Kd.R_lt (by have X_ := al.out; exact TR))) (below_size TB)); replace aj := aM (Kd.R_elder' (by have X_ := aj.out; exact TR) (Kd.R_base ho0) hb); replace al := aM (Kd.R_elder' (by have X_ := al.out; exact TR) (Kd.R_base ho0) hb); replace am := aM (Kd.R_below (by have X_ := am.out; exact TR) hb); replace aq := aM (Kd.R_below (by have X_ := aq.out; exact TR) hb); replace aa := aM (blk_below (g := gb858) (o := .cells #[.int .i64 aw, .int .i64 ax, .int .i64 az, .slice Ao16 ai.length co16] 28 (0, 0)) TK hb); replace HB := aM (below_step TB hb); clear ho0 hb) | ((with_reducible refine gate_dst (N := 9) rfl ?_); (try (refine gate_guard (by rfl) ?_; dsimp only)); refine gBx 9 #[.int .i64 0, .int .i64 0] 48 ?_; intro gb868 hg w20 hbox hb; have ae := aM (hbox); have GW868 := aM ((by rw [hg]; exact (below_size TB) : w.heap.size ≤ gb868)); have GE868 := aM ((by rw [hg]; exact (below_size TB) : w.heap.size ≤ gb868)); have NB858_868 := aM ((by rw [hg]; exact Nat.ne_of_lt (blk_lt (g := gb858) (o := .cells #[.int .i64 aw, .int .i64 ax, .int .i64 az, .slice Ao16 ai.length co16] 28 (0, 0)) TK) : gb858 ≠ gb868)); have NB868_858 := aM ((by rw [hg]; exact Nat.ne_of_gt (blk_lt (g := gb858) (o := .cells #[.int .i64 aw, .int .i64 ax, .int .i64 az, .slice Ao16 ai.length co16] 28 (0, 0)) TK) : gb868 ≠ gb858)); replace aj := aM (Kd.R_below (by have X_ := aj.out; exact TR) hb); replace al := aM (Kd.R_below (by have X_ := al.out; exact TR) hb); replace am := aM (Kd.R_below (Kd.R_elderB (by have X_ := am.out; exact TR) gb868 (Nat.le_of_eq hg.symm)) hb); replace aq := aM (Kd.R_below (by have X_ := aq.out; exact TR) hb); replace ap := aM (Kd.R_below (by have X_ := ap.out; exact TR) hb); replace aa := aM (blk_below (g := gb858) (o := .cells #[.int .i64 aw, .int .i64 ax, .int .i64 az, .slice Ao16 ai.length co16] 28 (0, 0)) TK hb); replace HB := aM (below_step TB hb); clear hb hbox hg; have hnb21 := NB868_858.out; have hnc21 := NB858_868.out; obtain ⟨hcz22_0, hcz22_1⟩ := cz2 ae.out; obtain ⟨hfz22_0, hfz22_1⟩ := fz2 ae.out) | ((with_reducible refine gate_callee (f := 25) rfl ?_); refine gL (some 42) Try.func25 #[.slice A0 l0.length c0] ?_; (with_reducible refine (spec_DrawFound.calls k _ _ l0 aW aJ aK aL au _ ?side1 ?side2 A8.out).mono ?_); (case side1 => exact Kd.C_below HR0.out TB); (case side2 => exact HC0.out); rintro e w23 ⟨bN, v876, rfl, ho0, ho1, hb⟩; refine ⟨_, rfl, ?_⟩; have ao := aM (Kd.R_lower (Kd.R_new' (Kd.R_new' (Kd.R_new' ho0 (Kd.R_lt (by (with_reducible repeat (first | apply Kd.R_alloc | apply Kd.R_drewN | apply Kd.R_drew)); exact (R_off (Kd.R_types aj.out ae.out (by decide)) TO)))) (Kd.R_lt (by (with_reducible repeat (first | apply Kd.R_alloc | apply Kd.R_drewN | apply Kd.R_drew)); exact (R_off (Kd.R_types al.out ae.out (by decide)) TO)))) (Kd.R_lt (by (with_reducible repeat (first | apply Kd.R_alloc | apply Kd.R_drewN | apply Kd.R_drew)); exact (R_off (Kd.R_types ap.out ae.out (by decide)) TO)))) (below_size TB)); have an := aM (Kd.R_lower (Kd.R_newB (Kd.R_new' ho1 (Kd.R_lt (by (with_reducible repeat (first | apply Kd.R_alloc | apply Kd.R_drewN | apply Kd.R_drew)); exact (R_off (Kd.R_mono am.out (fun k_ hk => (⟨hk, hk.2⟩ : _ ∧ k_ ≠ gb868))) TO)))) (g := gb868) (o := .cells #[.int .i64 aN, .int .i64 aQ] 48 (0, 0)) (by (with_reducible repeat (first | refine blk_drewN ?_ _ | refine blk_drew ?_ | refine blk_alloc ?_ _)); refine blk_put (cs := #[.int .i64 aN, .int .i64 0]) ?_ 1 _ rfl; (with_reducible repeat (first | refine blk_drewN ?_ _ | refine blk_drew ?_ | refine blk_alloc ?_ _)); refine blk_put (cs := #[.int .i64 0, .int .i64 0]) ?_ 0 _ rfl; (with_reducible repeat (first | refine blk_drewN ?_ _ | refine blk_drew ?_ | refine blk_alloc ?_ _)); exact ae.out)) (below_size TB)); replace aj := aM (Kd.R_elder' (by (with_reducible repeat (first | apply Kd.R_alloc | apply Kd.R_drewN | apply Kd.R_drew)); exact (R_off (Kd.R_types aj.out ae.out (by decide)) TO)) (Kd.R_base ho0) hb); replace al := aM (Kd.R_elder' (by (with_reducible repeat (first | apply Kd.R_alloc | apply Kd.R_drewN | apply Kd.R_drew)); exact (R_off (Kd.R_types al.out ae.out (by decide)) TO)) (Kd.R_base ho0) hb); replace am := aM (Kd.R_elder' (by (with_reducible repeat (first | apply Kd.R_alloc | apply Kd.R_drewN | apply Kd.R_drew)); exact (R_off (Kd.R_mono am.out (fun k_ hk => (⟨hk, hk.2⟩ : _ ∧ k_ ≠ gb868))) TO)) (Kd.R_base ho1) hb); replace aq := aM (Kd.R_below (by (with_reducible repeat (first | apply Kd.R_alloc | apply Kd.R_drewN | apply Kd.R_drew)); exact (R_off (Kd.R_types aq.out ae.out (by decide)) TO)) hb); replace ap := aM (Kd.R_elder' (by (with_reducible repeat (first | apply Kd.R_alloc | apply Kd.R_drewN | apply Kd.R_drew)); exact (R_off (Kd.R_types ap.out ae.out (by decide)) TO)) (Kd.R_base ho0) hb); replace aa := aM (blk_below (g := gb858) (o := .cells #[.int .i64 aw, .int .i64 ax, .int .i64 az, .slice Ao16 ai.length co16] 28 (0, 0)) (by (with_reducible repeat (first | refine blk_drewN ?_ _ | refine blk_drew ?_ | refine blk_alloc ?_ _)); refine blk_far ?_ NB858_868.out _; (with_reducible repeat (first | refine blk_drewN ?_ _ | refine blk_drew ?_ | refine blk_alloc ?_ _)); refine blk_far ?_ NB858_868.out _; (with_reducible repeat (first | refine blk_drewN ?_ _ | refine blk_drew ?_ | refine blk_alloc ?_ _)); exact aa.out) hb); replace ae := aM (blk_below (g := gb868) (o := .cells #[.int .i64 aN, .int .i64 aQ] 48 (0, 0)) (by (with_reducible repeat (first | refine blk_drewN ?_ _ | refine blk_drew ?_ | refine blk_alloc ?_ _)); refine blk_put (cs := #[.int .i64 aN, .int .i64 0]) ?_ 1 _ rfl; (with_reducible repeat (first | refine blk_drewN ?_ _ | refine blk_drew ?_ | refine blk_alloc ?_ _)); refine blk_put (cs := #[.int .i64 0, .int .i64 0]) ?_ 0 _ rfl; (with_reducible repeat (first | refine blk_drewN ?_ _ | refine blk_drew ?_ | refine blk_alloc ?_ _)); exact ae.out) hb); replace HB := aM (below_step TB hb); clear ho0 ho1 hb) | ((with_reducible refine gate_dst (N := 12) rfl ?_); (try (refine gate_guard (by rfl) ?_; dsimp only)); refine gBx 12 #[.int .i64 0, .int .i64 0, .int .i64 0, .slice none 0 0] 28 ?_; intro gb878 hg w24 hbox hb; have ab := aM (hbox); have GW878 := aM ((by rw [hg]; exact (below_size TB) : w.heap.size ≤ gb878)); have GE878 := aM ((by rw [hg]; exact (below_size TB) : w.heap.size ≤ gb878)); have NB858_878 := aM ((by rw [hg]; exact Nat.ne_of_lt (blk_lt (g := gb858) (o := .cells #[.int .i64 aw, .int .i64 ax, .int .i64 az, .slice Ao16 ai.length co16] 28 (0, 0)) TK) : gb858 ≠ gb878)); have NB878_858 := aM ((by rw [hg]; exact Nat.ne_of_gt (blk_lt (g := gb858) (o := .cells #[.int .i64 aw, .int .i64 ax, .int .i64 az, .slice Ao16 ai.length co16] 28 (0, 0)) TK) : gb878 ≠ gb858)); have NB868_878 := aM ((by rw [hg]; exact Nat.ne_of_lt (blk_lt (g := gb868) (o := .cells #[.int .i64 aN, .int .i64 aQ] 48 (0, 0)) TK) : gb868 ≠ gb878)); have NB878_868 := aM ((by rw [hg]; exact Nat.ne_of_gt (blk_lt (g := gb868) (o := .cells #[.int .i64 aN, .int .i64 aQ] 48 (0, 0)) TK) : gb878 ≠ gb868)); replace aj := aM (Kd.R_below (by have X_ := aj.out; exact TR) hb); replace al := aM (Kd.R_below (by have X_ := al.out; exact TR) hb); replace am := aM (Kd.R_below (by have X_ := am.out; exact TR) hb); replace aq := aM (Kd.R_below (by have X_ := aq.out; exact TR) hb); replace ap := aM (Kd.R_below (by have X_ := ap.out; exact TR) hb); replace ao := aM (Kd.R_below (by have X_ := ao.out; exact TR) hb); replace an := aM (Kd.R_below (by have X_ := an.out; exact TR) hb); replace aa := aM (blk_below (g := gb858) (o := .cells #[.int .i64 aw, .int .i64 ax, .int .i64 az, .slice Ao16 ai.length co16] 28 (0, 0)) TK hb); replace ae := aM (blk_below (g := gb868) (o := .cells #[.int .i64 aN, .int .i64 aQ] 48 (0, 0)) TK hb); replace HB := aM (below_step TB hb); clear hb hbox hg; have hnb25 := NB878_858.out; have hnc25 := NB858_878.out; have hnb26 := NB878_868.out; have hnc26 := NB868_878.out; obtain ⟨hcz27_0, hcz27_1, hcz27_2, hcz27_3⟩ := cz4 ab.out; obtain ⟨hfz27_0, hfz27_1, hfz27_2, hfz27_3⟩ := fz4 ab.out; obtain ⟨Ao28, co28, eo28⟩ := Kd.R_slice an.out; subst eo28) | ((with_reducible refine gate_callee (f := 26) rfl ?_); refine gL (some 47) Try.func26 #[.slice A0 l0.length c0] ?_; (with_reducible refine (spec_DrawPlaceOf.calls k _ _ l0 bl aD aE aG ak bP _ ?side1 ?side2 A9.out).mono ?_); (case side1 => exact Kd.C_below HR0.out TB); (case side2 => exact HC0.out); rintro e w29 ⟨bJ, v886, rfl, ho0, ho1, hb⟩; refine ⟨_, rfl, ?_⟩; have aC := aM (Kd.R_lower (Kd.R_new' (Kd.R_new' (Kd.R_new' (Kd.R_new' ho0 (Kd.R_lt (by (with_reducible repeat (first | apply Kd.R_alloc | apply Kd.R_drewN | apply Kd.R_drew)); exact (R_off (Kd.R_types aj.out ab.out (by decide)) TO)))) (Kd.R_lt (by (with_reducible repeat (first | apply Kd.R_alloc | apply Kd.R_drewN | apply Kd.R_drew)); exact (R_off (Kd.R_types al.out ab.out (by decide)) TO)))) (Kd.R_lt (by (with_reducible repeat (first | apply Kd.R_alloc | apply Kd.R_drewN | apply Kd.R_drew)); exact (R_off (Kd.R_types ap.out ab.out (by decide)) TO)))) (Kd.R_lt (by (with_reducible repeat (first | apply Kd.R_alloc | apply Kd.R_drewN | apply Kd.R_drew)); exact (R_off (Kd.R_types ao.out ab.out (by decide)) TO)))) (below_size TB)); have aA := aM (Kd.R_lower (Kd.R_newB (Kd.R_new' (Kd.R_new' ho1 (Kd.R_lt (by (with_reducible repeat (first | apply Kd.R_alloc | apply Kd.R_drewN | apply Kd.R_drew)); exact (R_off (Kd.R_types am.out ab.out (by decide)) TO)))) (Kd.R_lt (by (with_reducible repeat (first | apply Kd.R_alloc | apply Kd.R_drewN | apply Kd.R_drew)); exact (R_off (Kd.R_types an.out ab.out (by decide)) TO)))) (g := gb868) (o := .cells #[.int .i64 aN, .int .i64 aQ] 48 (0, 0)) (by (with_reducible repeat (first | refine blk_drewN ?_ _ | refine blk_drew ?_ | refine blk_alloc ?_ _)); refine blk_far ?_ NB868_878.out _; (with_reducible repeat (first | refine blk_drewN ?_ _ | refine blk_drew ?_ | refine blk_alloc ?_ _)); refine blk_far ?_ NB868_878.out _; (with_reducible repeat (first | refine blk_drewN ?_ _ | refine blk_drew ?_ | refine blk_alloc ?_ _)); refine blk_far ?_ NB868_878.out _; (with_reducible repeat (first | refine blk_drewN ?_ _ | refine blk_drew ?_ | refine blk_alloc ?_ _)); refine blk_far ?_ NB868_878.out _; (with_reducible repeat (first | refine blk_drewN ?_ _ | refine blk_drew ?_ | refine blk_alloc ?_ _)); exact ae.out)) (below_size TB)); replace aj := aM (Kd.R_elder' (by (with_reducible repeat (first | apply Kd.R_alloc | apply Kd.R_drewN | apply Kd.R_drew)); exact (R_off (Kd.R_types aj.out ab.out (by decide)) TO)) (Kd.R_base ho0) hb); replace al := aM (Kd.R_elder' (by (with_reducible repeat (first | apply Kd.R_alloc | apply Kd.R_drewN | apply Kd.R_drew)); exact (R_off (Kd.R_types al.out ab.out (by decide)) TO)) (Kd.R_base ho0) hb); replace am := aM (Kd.R_elder' (by (with_reducible repeat (first | apply Kd.R_alloc | apply Kd.R_drewN | apply Kd.R_drew)); exact (R_off (Kd.R_types am.out ab.out (by decide)) TO)) (Kd.R_base ho1) hb); replace aq := aM (Kd.R_below (by (with_reducible repeat (first | apply Kd.R_alloc | apply Kd.R_drewN | apply Kd.R_drew)); exact (R_off (Kd.R_types aq.out ab.out (by decide)) TO)) hb); replace ap := aM (Kd.R_elder' (by (with_reducible repeat (first | apply Kd.R_alloc | apply Kd.R_drewN | apply Kd.R_drew)); exact (R_off (Kd.R_types ap.out ab.out (by decide)) TO)) (Kd.R_base ho0) hb); replace ao := aM (Kd.R_elder' (by (with_reducible repeat (first | apply Kd.R_alloc | apply Kd.R_drewN | apply Kd.R_drew)); exact (R_off (Kd.R_types ao.out ab.out (by decide)) TO)) (Kd.R_base ho0) hb); replace an := aM (Kd.R_elder' (by (with_reducible repeat (first | apply Kd.R_alloc | apply Kd.R_drewN | apply Kd.R_drew)); exact (R_off (Kd.R_types an.out ab.out (by decide)) TO)) (Kd.R_base ho1) hb); replace aa := aM (blk_below (g := gb858) (o := .cells #[.int .i64 aw, .int .i64 ax, .int .i64 az, .slice Ao16 ai.length co16] 28 (0, 0)) (by (with_reducible repeat (first | refine blk_drewN ?_ _ | refine blk_drew ?_ | refine blk_alloc ?_ _)); refine blk_far ?_ NB858_878.out _; (with_reducible repeat (first | refine blk_drewN ?_ _ | refine blk_drew ?_ | refine blk_alloc ?_ _)); refine blk_far ?_ NB858_878.out _; (with_reducible repeat (first | refine blk_drewN ?_ _ | refine blk_drew ?_ | refine blk_alloc ?_ _)); refine blk_far ?_ NB858_878.out _; (with_reducible repeat (first | refine blk_drewN ?_ _ | refine blk_drew ?_ | refine blk_alloc ?_ _)); refine blk_far ?_ NB858_878.out _; (with_reducible repeat (first | refine blk_drewN ?_ _ | refine blk_drew ?_ | refine blk_alloc ?_ _)); exact aa.out) hb); replace ae := aM (blk_below (g := gb868) (o := .cells #[.int .i64 aN, .int .i64 aQ] 48 (0, 0)) (by (with_reducible repeat (first | refine blk_drewN ?_ _ | refine blk_drew ?_ | refine blk_alloc ?_ _)); refine blk_far ?_ NB868_878.out _; (with_reducible repeat (first | refine blk_drewN ?_ _ | refine blk_drew ?_ | refine blk_alloc ?_ _)); refine blk_far ?_ NB868_878.out _; (with_reducible repeat (first | refine blk_drewN ?_ _ | refine blk_drew ?_ | refine blk_alloc ?_ _)); refine blk_far ?_ NB868_878.out _; (with_reducible repeat (first | refine blk_drewN ?_ _ | refine blk_drew ?_ | refine blk_alloc ?_ _)); refine blk_far ?_ NB868_878.out _; (with_reducible repeat (first | refine blk_drewN ?_ _ | refine blk_drew ?_ | refine blk_alloc ?_ _)); exact ae.out) hb); replace ab := aM (blk_below (g := gb878) (o := .cells #[.int .i64 aJ, .int .i64 aK, .int .i64 aL, .slice Ao28 au.length co28] 28 (0, 0)) (by (with_reducible repeat (first | refine blk_drewN ?_ _ | refine blk_drew ?_ | refine blk_alloc ?_ _)); refine blk_put (cs := #[.int .i64 aJ, .int .i64 aK, .int .i64 aL, .slice none 0 0]) ?_ 3 _ rfl; (with_reducible repeat (first | refine blk_drewN ?_ _ | refine blk_drew ?_ | refine blk_alloc ?_ _)); refine blk_put (cs := #[.int .i64 aJ, .int .i64 aK, .int .i64 0, .slice none 0 0]) ?_ 2 _ rfl; (with_reducible repeat (first | refine blk_drewN ?_ _ | refine blk_drew ?_ | refine blk_alloc ?_ _)); refine blk_put (cs := #[.int .i64 aJ, .int .i64 0, .int .i64 0, .slice none 0 0]) ?_ 1 _ rfl; (with_reducible repeat (first | refine blk_drewN ?_ _ | refine blk_drew ?_ | refine blk_alloc ?_ _)); refine blk_put (cs := #[.int .i64 0, .int .i64 0, .int .i64 0, .slice none 0 0]) ?_ 0 _ rfl; (with_reducible repeat (first | refine blk_drewN ?_ _ | refine blk_drew ?_ | refine blk_alloc ?_ _)); exact ab.out) hb); replace HB := aM (below_step TB hb); clear ho0 ho1 hb) | ((with_reducible refine gate_dst (N := 14) rfl ?_); (try (refine gate_guard (by rfl) ?_; dsimp only)); refine gBx 14 #[.int .i64 0, .int .i64 0, .int .i64 0, .slice none 0 0] 28 ?_; intro gb889 hg w30 hbox hb; have ac := aM (hbox); have GW889 := aM ((by rw [hg]; exact (below_size TB) : w.heap.size ≤ gb889)); have GE889 := aM ((by rw [hg]; exact (below_size TB) : w.heap.size ≤ gb889)); have NB858_889 := aM ((by rw [hg]; exact Nat.ne_of_lt (blk_lt (g := gb858) (o := .cells #[.int .i64 aw, .int .i64 ax, .int .i64 az, .slice Ao16 ai.length co16] 28 (0, 0)) TK) : gb858 ≠ gb889)); have NB889_858 := aM ((by rw [hg]; exact Nat.ne_of_gt (blk_lt (g := gb858) (o := .cells #[.int .i64 aw, .int .i64 ax, .int .i64 az, .slice Ao16 ai.length co16] 28 (0, 0)) TK) : gb889 ≠ gb858)); have NB868_889 := aM ((by rw [hg]; exact Nat.ne_of_lt (blk_lt (g := gb868) (o := .cells #[.int .i64 aN, .int .i64 aQ] 48 (0, 0)) TK) : gb868 ≠ gb889)); have NB889_868 := aM ((by rw [hg]; exact Nat.ne_of_gt (blk_lt (g := gb868) (o := .cells #[.int .i64 aN, .int .i64 aQ] 48 (0, 0)) TK) : gb889 ≠ gb868)); have NB878_889 := aM ((by rw [hg]; exact Nat.ne_of_lt (blk_lt (g := gb878) (o := .cells #[.int .i64 aJ, .int .i64 aK, .int .i64 aL, .slice Ao28 au.length co28] 28 (0, 0)) TK) : gb878 ≠ gb889)); have NB889_878 := aM ((by rw [hg]; exact Nat.ne_of_gt (blk_lt (g := gb878) (o := .cells #[.int .i64 aJ, .int .i64 aK, .int .i64 aL, .slice Ao28 au.length co28] 28 (0, 0)) TK) : gb889 ≠ gb878)); replace aj := aM (Kd.R_below (by have X_ := aj.out; exact TR) hb); replace al := aM (Kd.R_below (by have X_ := al.out; exact TR) hb); replace am := aM (Kd.R_below (by have X_ := am.out; exact TR) hb); replace aq := aM (Kd.R_below (by have X_ := aq.out; exact TR) hb); replace ap := aM (Kd.R_below (by have X_ := ap.out; exact TR) hb); replace ao := aM (Kd.R_below (by have X_ := ao.out; exact TR) hb); replace an := aM (Kd.R_below (by have X_ := an.out; exact TR) hb); replace aC := aM (Kd.R_below (by have X_ := aC.out; exact TR) hb); replace aA := aM (Kd.R_below (by have X_ := aA.out; exact TR) hb); replace aa := aM (blk_below (g := gb858) (o := .cells #[.int .i64 aw, .int .i64 ax, .int .i64 az, .slice Ao16 ai.length co16] 28 (0, 0)) TK hb); replace ae := aM (blk_below (g := gb868) (o := .cells #[.int .i64 aN, .int .i64 aQ] 48 (0, 0)) TK hb); replace ab := aM (blk_below (g := gb878) (o := .cells #[.int .i64 aJ, .int .i64 aK, .int .i64 aL, .slice Ao28 au.length co28] 28 (0, 0)) TK hb); replace HB := aM (below_step TB hb); clear hb hbox hg; have hnb31 := NB889_858.out; have hnc31 := NB858_889.out; have hnb32 := NB889_868.out; have hnc32 := NB868_889.out; have hnb33 := NB889_878.out; have hnc33 := NB878_889.out; obtain ⟨hcz34_0, hcz34_1, hcz34_2, hcz34_3⟩ := cz4 ac.out; obtain ⟨hfz34_0, hfz34_1, hfz34_2, hfz34_3⟩ := fz4 ac.out; obtain ⟨Ao35, co35, eo35⟩ := Kd.R_slice aA.out; subst eo35))
  (try simp only [Act.put, List.setIfInBounds_toArray, List.set_cons_zero, List.set_cons_succ])
  go_cut [105] (fun v105 wc => ∃ (kq : Nat) (bH : Bool), v105 = .bool bH ∧ Aside0 (laws_FnScans.j0 kq av aS a5 ar bH aw ax az ai = some r) ∧ Aside0 (kq ≤ k) ∧ Aside0 (Kd.R (Kd.int .u8) 5 wc w.heap.size (fun k_ => some k_ ≠ ((.slice Ao12 aS.length co12) : Value).ownBlock) (.slice aV av.length co17) av) ∧ Aside0 (Kd.R (Kd.int .u8) 5 wc w.heap.size (fun k_ => some k_ ≠ ((.slice aV av.length co17) : Value).ownBlock) (.slice Ao12 aS.length co12) aS) ∧ Aside0 (Kd.R (Kd.int .i64) 3 wc w.heap.size (fun _ => True) v860 ar) ∧ Aside0 (Kd.R k48 48 wc w.heap.size (fun k_ => some k_ ≠ ((.slice Ao28 au.length co28) : Value).ownBlock ∧ some k_ ≠ ((.slice Ao35 ak.length co35) : Value).ownBlock ∧ k_ ≠ gb868) (.slice Ao16 ai.length co16) ai) ∧ Aside0 (Kd.R k48 48 wc w.heap.size (fun k_ => some k_ ≠ ((.slice Ao16 ai.length co16) : Value).ownBlock ∧ some k_ ≠ ((.slice Ao35 ak.length co35) : Value).ownBlock ∧ k_ ≠ gb868) (.slice Ao28 au.length co28) au) ∧ Aside0 (Kd.R k48 48 wc w.heap.size (fun k_ => some k_ ≠ ((.slice Ao16 ai.length co16) : Value).ownBlock ∧ some k_ ≠ ((.slice Ao28 au.length co28) : Value).ownBlock ∧ k_ ≠ gb868) (.slice Ao35 ak.length co35) ak) ∧ Aside0 (wc.heap[gb858]? = some (.cells #[.int .i64 aw, .int .i64 ax, .int .i64 az, (.slice Ao16 ai.length co16)] 28 (0, 0))) ∧ Aside0 (wc.heap[gb868]? = some (.cells #[.int .i64 aN, .int .i64 aQ] 48 (0, 0))) ∧ Aside0 (wc.heap[gb878]? = some (.cells #[.int .i64 aJ, .int .i64 aK, .int .i64 aL, (.slice Ao28 au.length co28)] 28 (0, 0))) ∧ Aside0 (wc.heap[gb889]? = some (.cells #[.int .i64 aD, .int .i64 aE, .int .i64 aG, (.slice Ao35 ak.length co35)] 28 (0, 0))) ∧ Aside0 (Below w.heap.size w wc))
  case first =>
   have H := cj.out
   clear cj
   replace H := bE H
   obtain ⟨bg, A36, H⟩ := H
   replace H := bE H
   obtain ⟨bh, A37, H⟩ := H
   by_cases c38 : bg = bh
   ·rw [if_pos c38] at H
    have aY : (bg == bh) = true := beq_iff_eq.mpr c38
    have bB : (bg != bh) = false := bne_eq_false_iff_eq.mpr c38
    clear c38
    (first | rw [aY] | (simp only [i64_w, i32_w]; rw [aY]) | skip)
    replace H := bE H
    obtain ⟨bb, A39, H⟩ := H
    replace H := bE H
    obtain ⟨be, A40, H⟩ := H
    by_cases c41 : bb = be
    ·rw [if_pos c41] at H
     have bz : (bb == be) = true := beq_iff_eq.mpr c41
     have bD : (bb != be) = false := bne_eq_false_iff_eq.mpr c41
     clear c41
     replace H := bE H
     obtain ⟨bi, A42, H⟩ := H
     replace H := bE H
     obtain ⟨bn, A43, H⟩ := H
     by_cases c44 : bi = bn
     ·rw [if_pos c44] at H
      have bC : (bi == bn) = true := beq_iff_eq.mpr c44
      have bu : (bi != bn) = false := bne_eq_false_iff_eq.mpr c44
      clear c44
      replace H := bE H
      obtain ⟨bm, A45, H⟩ := H
      replace H := bE H
      obtain ⟨bp, A46, H⟩ := H
      by_cases c47 : bm = bp
      ·rw [if_pos c47] at H
       have bv : (bm == bp) = true := beq_iff_eq.mpr c47
       have bG : (bm != bp) = false := bne_eq_false_iff_eq.mpr c47
       clear c47
       replace H := bE H
       obtain ⟨bq, A48, H⟩ := H
       replace H := bE H
       obtain ⟨bo, A49, H⟩ := H
       by_cases c50 : bq = bo
       ·rw [if_pos c50] at H
        have bx : (bq == bo) = true := beq_iff_eq.mpr c50
        have bt : (bq != bo) = false := bne_eq_false_iff_eq.mpr c50
        clear c50
        replace H := bE H
        obtain ⟨cd, A51, H⟩ := H
        replace H := bE H
        obtain ⟨t903, A52, H⟩ := H
        have H' := aM H
        clear H
        try go_wp2
        have n0_ : Aside0 (Kd.R (Kd.int .u8) 5 ((((w30.setCell ⟨gb889, 0, none⟩ (.int .i64 aD)).setCell ⟨gb889, 1, none⟩ (.int .i64 aE)).setCell ⟨gb889, 2, none⟩ (.int .i64 aG)).setCell ⟨gb889, 3, none⟩ (.slice Ao35 ak.length co35)) w.heap.size (fun k_ => some k_ ≠ (.slice Ao12 aS.length co12 : Value).ownBlock ∧ some k_ ≠ (bK : Value).ownBlock ∧ some k_ ≠ (bN : Value).ownBlock ∧ some k_ ≠ (bJ : Value).ownBlock) (.slice aV av.length co17) av) := ⟨by (with_reducible repeat (first | apply Kd.R_alloc | apply Kd.R_drewN | apply Kd.R_drew)); exact Kd.R_mono (Kd.R_far (p := ⟨gb889, 3, none⟩) (Kd.R_far (p := ⟨gb889, 2, none⟩) (Kd.R_far (p := ⟨gb889, 1, none⟩) (Kd.R_far (p := ⟨gb889, 0, none⟩) (Kd.R_types aj.out ac.out (by decide)) (fun _ hk => hk.2) (.int .i64 aD)) (fun _ hk => hk.2) (.int .i64 aE)) (fun _ hk => hk.2) (.int .i64 aG)) (fun _ hk => hk.2) (.slice Ao35 ak.length co35)) (fun _ hk => ⟨hk.1.1.1.1, ⟨hk.1.1.1.2, ⟨hk.1.1.2, hk.1.2⟩⟩⟩)⟩
        have n1_ : Aside0 (Kd.R (Kd.int .u8) 5 ((((w30.setCell ⟨gb889, 0, none⟩ (.int .i64 aD)).setCell ⟨gb889, 1, none⟩ (.int .i64 aE)).setCell ⟨gb889, 2, none⟩ (.int .i64 aG)).setCell ⟨gb889, 3, none⟩ (.slice Ao35 ak.length co35)) w.heap.size (fun k_ => some k_ ≠ (.slice aV av.length co17 : Value).ownBlock ∧ some k_ ≠ (bK : Value).ownBlock ∧ some k_ ≠ (bN : Value).ownBlock ∧ some k_ ≠ (bJ : Value).ownBlock) (.slice Ao12 aS.length co12) aS) := ⟨by (with_reducible repeat (first | apply Kd.R_alloc | apply Kd.R_drewN | apply Kd.R_drew)); exact Kd.R_mono (Kd.R_far (p := ⟨gb889, 3, none⟩) (Kd.R_far (p := ⟨gb889, 2, none⟩) (Kd.R_far (p := ⟨gb889, 1, none⟩) (Kd.R_far (p := ⟨gb889, 0, none⟩) (Kd.R_types al.out ac.out (by decide)) (fun _ hk => hk.2) (.int .i64 aD)) (fun _ hk => hk.2) (.int .i64 aE)) (fun _ hk => hk.2) (.int .i64 aG)) (fun _ hk => hk.2) (.slice Ao35 ak.length co35)) (fun _ hk => ⟨hk.1.1.1.1, ⟨hk.1.1.1.2, ⟨hk.1.1.2, hk.1.2⟩⟩⟩)⟩
        have n2_ : Aside0 (Kd.R k48 48 ((((w30.setCell ⟨gb889, 0, none⟩ (.int .i64 aD)).setCell ⟨gb889, 1, none⟩ (.int .i64 aE)).setCell ⟨gb889, 2, none⟩ (.int .i64 aG)).setCell ⟨gb889, 3, none⟩ (.slice Ao35 ak.length co35)) w.heap.size (fun k_ => some k_ ≠ (.slice Ao28 au.length co28 : Value).ownBlock ∧ some k_ ≠ (.slice Ao35 ak.length co35 : Value).ownBlock ∧ k_ ≠ gb868) (.slice Ao16 ai.length co16) ai) := ⟨by (with_reducible repeat (first | apply Kd.R_alloc | apply Kd.R_drewN | apply Kd.R_drew)); exact Kd.R_mono (Kd.R_far (p := ⟨gb889, 3, none⟩) (Kd.R_far (p := ⟨gb889, 2, none⟩) (Kd.R_far (p := ⟨gb889, 1, none⟩) (Kd.R_far (p := ⟨gb889, 0, none⟩) (Kd.R_types am.out ac.out (by decide)) (fun _ hk => hk.2) (.int .i64 aD)) (fun _ hk => hk.2) (.int .i64 aE)) (fun _ hk => hk.2) (.int .i64 aG)) (fun _ hk => hk.2) (.slice Ao35 ak.length co35)) (fun _ hk => ⟨hk.1.1.2, ⟨hk.1.2, hk.1.1.1.2⟩⟩)⟩
        have n3_ : Aside0 (Kd.R (Kd.int .i64) 3 ((((w30.setCell ⟨gb889, 0, none⟩ (.int .i64 aD)).setCell ⟨gb889, 1, none⟩ (.int .i64 aE)).setCell ⟨gb889, 2, none⟩ (.int .i64 aG)).setCell ⟨gb889, 3, none⟩ (.slice Ao35 ak.length co35)) w.heap.size (fun _ => True) v860 ar) := ⟨by (with_reducible repeat (first | apply Kd.R_alloc | apply Kd.R_drewN | apply Kd.R_drew)); exact Kd.R_mono (Kd.R_far (p := ⟨gb889, 3, none⟩) (Kd.R_far (p := ⟨gb889, 2, none⟩) (Kd.R_far (p := ⟨gb889, 1, none⟩) (Kd.R_far (p := ⟨gb889, 0, none⟩) (Kd.R_types aq.out ac.out (by decide)) (fun _ hk => hk.2) (.int .i64 aD)) (fun _ hk => hk.2) (.int .i64 aE)) (fun _ hk => hk.2) (.int .i64 aG)) (fun _ hk => hk.2) (.slice Ao35 ak.length co35)) (fun _ hk => trivial)⟩
        have n4_ : Aside0 (Kd.R (Kd.int .u8) 5 ((((w30.setCell ⟨gb889, 0, none⟩ (.int .i64 aD)).setCell ⟨gb889, 1, none⟩ (.int .i64 aE)).setCell ⟨gb889, 2, none⟩ (.int .i64 aG)).setCell ⟨gb889, 3, none⟩ (.slice Ao35 ak.length co35)) w.heap.size (fun k_ => some k_ ≠ (.slice aV av.length co17 : Value).ownBlock ∧ some k_ ≠ (.slice Ao12 aS.length co12 : Value).ownBlock ∧ some k_ ≠ (bN : Value).ownBlock ∧ some k_ ≠ (bJ : Value).ownBlock) bK bd) := ⟨by (with_reducible repeat (first | apply Kd.R_alloc | apply Kd.R_drewN | apply Kd.R_drew)); exact Kd.R_mono (Kd.R_far (p := ⟨gb889, 3, none⟩) (Kd.R_far (p := ⟨gb889, 2, none⟩) (Kd.R_far (p := ⟨gb889, 1, none⟩) (Kd.R_far (p := ⟨gb889, 0, none⟩) (Kd.R_types ap.out ac.out (by decide)) (fun _ hk => hk.2) (.int .i64 aD)) (fun _ hk => hk.2) (.int .i64 aE)) (fun _ hk => hk.2) (.int .i64 aG)) (fun _ hk => hk.2) (.slice Ao35 ak.length co35)) (fun _ hk => ⟨hk.1.1.1.1.2, ⟨hk.1.1.1.2, ⟨hk.1.1.2, hk.1.2⟩⟩⟩)⟩
        have n5_ : Aside0 (Kd.R (Kd.int .u8) 5 ((((w30.setCell ⟨gb889, 0, none⟩ (.int .i64 aD)).setCell ⟨gb889, 1, none⟩ (.int .i64 aE)).setCell ⟨gb889, 2, none⟩ (.int .i64 aG)).setCell ⟨gb889, 3, none⟩ (.slice Ao35 ak.length co35)) w.heap.size (fun k_ => some k_ ≠ (.slice aV av.length co17 : Value).ownBlock ∧ some k_ ≠ (.slice Ao12 aS.length co12 : Value).ownBlock ∧ some k_ ≠ (bK : Value).ownBlock ∧ some k_ ≠ (bJ : Value).ownBlock) bN aW) := ⟨by (with_reducible repeat (first | apply Kd.R_alloc | apply Kd.R_drewN | apply Kd.R_drew)); exact Kd.R_mono (Kd.R_far (p := ⟨gb889, 3, none⟩) (Kd.R_far (p := ⟨gb889, 2, none⟩) (Kd.R_far (p := ⟨gb889, 1, none⟩) (Kd.R_far (p := ⟨gb889, 0, none⟩) (Kd.R_types ao.out ac.out (by decide)) (fun _ hk => hk.2) (.int .i64 aD)) (fun _ hk => hk.2) (.int .i64 aE)) (fun _ hk => hk.2) (.int .i64 aG)) (fun _ hk => hk.2) (.slice Ao35 ak.length co35)) (fun _ hk => ⟨hk.1.1.1.1.2, ⟨hk.1.1.1.2, ⟨hk.1.1.2, hk.1.2⟩⟩⟩)⟩
        have n6_ : Aside0 (Kd.R k48 48 ((((w30.setCell ⟨gb889, 0, none⟩ (.int .i64 aD)).setCell ⟨gb889, 1, none⟩ (.int .i64 aE)).setCell ⟨gb889, 2, none⟩ (.int .i64 aG)).setCell ⟨gb889, 3, none⟩ (.slice Ao35 ak.length co35)) w.heap.size (fun k_ => some k_ ≠ (.slice Ao16 ai.length co16 : Value).ownBlock ∧ some k_ ≠ (.slice Ao35 ak.length co35 : Value).ownBlock ∧ k_ ≠ gb868) (.slice Ao28 au.length co28) au) := ⟨by (with_reducible repeat (first | apply Kd.R_alloc | apply Kd.R_drewN | apply Kd.R_drew)); exact Kd.R_mono (Kd.R_far (p := ⟨gb889, 3, none⟩) (Kd.R_far (p := ⟨gb889, 2, none⟩) (Kd.R_far (p := ⟨gb889, 1, none⟩) (Kd.R_far (p := ⟨gb889, 0, none⟩) (Kd.R_types an.out ac.out (by decide)) (fun _ hk => hk.2) (.int .i64 aD)) (fun _ hk => hk.2) (.int .i64 aE)) (fun _ hk => hk.2) (.int .i64 aG)) (fun _ hk => hk.2) (.slice Ao35 ak.length co35)) (fun _ hk => ⟨hk.1.1.1.2, ⟨hk.1.2, hk.1.1.2⟩⟩)⟩
        have n7_ : Aside0 (Kd.R (Kd.int .u8) 5 ((((w30.setCell ⟨gb889, 0, none⟩ (.int .i64 aD)).setCell ⟨gb889, 1, none⟩ (.int .i64 aE)).setCell ⟨gb889, 2, none⟩ (.int .i64 aG)).setCell ⟨gb889, 3, none⟩ (.slice Ao35 ak.length co35)) w.heap.size (fun k_ => some k_ ≠ (.slice aV av.length co17 : Value).ownBlock ∧ some k_ ≠ (.slice Ao12 aS.length co12 : Value).ownBlock ∧ some k_ ≠ (bK : Value).ownBlock ∧ some k_ ≠ (bN : Value).ownBlock) bJ bl) := ⟨by (with_reducible repeat (first | apply Kd.R_alloc | apply Kd.R_drewN | apply Kd.R_drew)); exact Kd.R_mono (Kd.R_far (p := ⟨gb889, 3, none⟩) (Kd.R_far (p := ⟨gb889, 2, none⟩) (Kd.R_far (p := ⟨gb889, 1, none⟩) (Kd.R_far (p := ⟨gb889, 0, none⟩) (Kd.R_types aC.out ac.out (by decide)) (fun _ hk => hk.2) (.int .i64 aD)) (fun _ hk => hk.2) (.int .i64 aE)) (fun _ hk => hk.2) (.int .i64 aG)) (fun _ hk => hk.2) (.slice Ao35 ak.length co35)) (fun _ hk => ⟨hk.1.1.1.1.2, ⟨hk.1.1.1.2, ⟨hk.1.1.2, hk.1.2⟩⟩⟩)⟩
        have n8_ : Aside0 (Kd.R k48 48 ((((w30.setCell ⟨gb889, 0, none⟩ (.int .i64 aD)).setCell ⟨gb889, 1, none⟩ (.int .i64 aE)).setCell ⟨gb889, 2, none⟩ (.int .i64 aG)).setCell ⟨gb889, 3, none⟩ (.slice Ao35 ak.length co35)) w.heap.size (fun k_ => some k_ ≠ (.slice Ao16 ai.length co16 : Value).ownBlock ∧ some k_ ≠ (.slice Ao28 au.length co28 : Value).ownBlock ∧ k_ ≠ gb868) (.slice Ao35 ak.length co35) ak) := ⟨by (with_reducible repeat (first | apply Kd.R_alloc | apply Kd.R_drewN | apply Kd.R_drew)); exact Kd.R_mono (Kd.R_far (p := ⟨gb889, 3, none⟩) (Kd.R_far (p := ⟨gb889, 2, none⟩) (Kd.R_far (p := ⟨gb889, 1, none⟩) (Kd.R_far (p := ⟨gb889, 0, none⟩) (Kd.R_types aA.out ac.out (by decide)) (fun _ hk => hk.2) (.int .i64 aD)) (fun _ hk => hk.2) (.int .i64 aE)) (fun _ hk => hk.2) (.int .i64 aG)) (fun _ hk => hk.2) (.slice Ao35 ak.length co35)) (fun _ hk => ⟨hk.1.1.1.2, ⟨hk.1.1.2, hk.1.2⟩⟩)⟩
        have n9_ : Aside0 (((((w30.setCell ⟨gb889, 0, none⟩ (.int .i64 aD)).setCell ⟨gb889, 1, none⟩ (.int .i64 aE)).setCell ⟨gb889, 2, none⟩ (.int .i64 aG)).setCell ⟨gb889, 3, none⟩ (.slice Ao35 ak.length co35)).heap[gb858]? = some (.cells #[.int .i64 aw, .int .i64 ax, .int .i64 az, .slice Ao16 ai.length co16] 28 (0, 0))) := ⟨by (with_reducible repeat (first | refine blk_drewN ?_ _ | refine blk_drew ?_ | refine blk_alloc ?_ _)); refine blk_far ?_ NB858_889.out _; (with_reducible repeat (first | refine blk_drewN ?_ _ | refine blk_drew ?_ | refine blk_alloc ?_ _)); refine blk_far ?_ NB858_889.out _; (with_reducible repeat (first | refine blk_drewN ?_ _ | refine blk_drew ?_ | refine blk_alloc ?_ _)); refine blk_far ?_ NB858_889.out _; (with_reducible repeat (first | refine blk_drewN ?_ _ | refine blk_drew ?_ | refine blk_alloc ?_ _)); refine blk_far ?_ NB858_889.out _; (with_reducible repeat (first | refine blk_drewN ?_ _ | refine blk_drew ?_ | refine blk_alloc ?_ _)); exact aa.out⟩
        have ay : Aside0 (((((w30.setCell ⟨gb889, 0, none⟩ (.int .i64 aD)).setCell ⟨gb889, 1, none⟩ (.int .i64 aE)).setCell ⟨gb889, 2, none⟩ (.int .i64 aG)).setCell ⟨gb889, 3, none⟩ (.slice Ao35 ak.length co35)).heap[gb868]? = some (.cells #[.int .i64 aN, .int .i64 aQ] 48 (0, 0))) := ⟨by (with_reducible repeat (first | refine blk_drewN ?_ _ | refine blk_drew ?_ | refine blk_alloc ?_ _)); refine blk_far ?_ NB868_889.out _; (with_reducible repeat (first | refine blk_drewN ?_ _ | refine blk_drew ?_ | refine blk_alloc ?_ _)); refine blk_far ?_ NB868_889.out _; (with_reducible repeat (first | refine blk_drewN ?_ _ | refine blk_drew ?_ | refine blk_alloc ?_ _)); refine blk_far ?_ NB868_889.out _; (with_reducible repeat (first | refine blk_drewN ?_ _ | refine blk_drew ?_ | refine blk_alloc ?_ _)); refine blk_far ?_ NB868_889.out _; (with_reducible repeat (first | refine blk_drewN ?_ _ | refine blk_drew ?_ | refine blk_alloc ?_ _)); exact ae.out⟩
        have aI : Aside0 (((((w30.setCell ⟨gb889, 0, none⟩ (.int .i64 aD)).setCell ⟨gb889, 1, none⟩ (.int .i64 aE)).setCell ⟨gb889, 2, none⟩ (.int .i64 aG)).setCell ⟨gb889, 3, none⟩ (.slice Ao35 ak.length co35)).heap[gb878]? = some (.cells #[.int .i64 aJ, .int .i64 aK, .int .i64 aL, .slice Ao28 au.length co28] 28 (0, 0))) := ⟨by (with_reducible repeat (first | refine blk_drewN ?_ _ | refine blk_drew ?_ | refine blk_alloc ?_ _)); refine blk_far ?_ NB878_889.out _; (with_reducible repeat (first | refine blk_drewN ?_ _ | refine blk_drew ?_ | refine blk_alloc ?_ _)); refine blk_far ?_ NB878_889.out _; (with_reducible repeat (first | refine blk_drewN ?_ _ | refine blk_drew ?_ | refine blk_alloc ?_ _)); refine blk_far ?_ NB878_889.out _; (with_reducible repeat (first | refine blk_drewN ?_ _ | refine blk_drew ?_ | refine blk_alloc ?_ _)); refine blk_far ?_ NB878_889.out _; (with_reducible repeat (first | refine blk_drewN ?_ _ | refine blk_drew ?_ | refine blk_alloc ?_ _)); exact ab.out⟩
        have aR : Aside0 (((((w30.setCell ⟨gb889, 0, none⟩ (.int .i64 aD)).setCell ⟨gb889, 1, none⟩ (.int .i64 aE)).setCell ⟨gb889, 2, none⟩ (.int .i64 aG)).setCell ⟨gb889, 3, none⟩ (.slice Ao35 ak.length co35)).heap[gb889]? = some (.cells #[.int .i64 aD, .int .i64 aE, .int .i64 aG, .slice Ao35 ak.length co35] 28 (0, 0))) := ⟨by (with_reducible repeat (first | refine blk_drewN ?_ _ | refine blk_drew ?_ | refine blk_alloc ?_ _)); refine blk_put (cs := #[.int .i64 aD, .int .i64 aE, .int .i64 aG, .slice none 0 0]) ?_ 3 _ rfl; (with_reducible repeat (first | refine blk_drewN ?_ _ | refine blk_drew ?_ | refine blk_alloc ?_ _)); refine blk_put (cs := #[.int .i64 aD, .int .i64 aE, .int .i64 0, .slice none 0 0]) ?_ 2 _ rfl; (with_reducible repeat (first | refine blk_drewN ?_ _ | refine blk_drew ?_ | refine blk_alloc ?_ _)); refine blk_put (cs := #[.int .i64 aD, .int .i64 0, .int .i64 0, .slice none 0 0]) ?_ 1 _ rfl; (with_reducible repeat (first | refine blk_drewN ?_ _ | refine blk_drew ?_ | refine blk_alloc ?_ _)); refine blk_put (cs := #[.int .i64 0, .int .i64 0, .int .i64 0, .slice none 0 0]) ?_ 0 _ rfl; (with_reducible repeat (first | refine blk_drewN ?_ _ | refine blk_drew ?_ | refine blk_alloc ?_ _)); exact ac.out⟩
        have aU : Aside0 (Below w.heap.size w ((((w30.setCell ⟨gb889, 0, none⟩ (.int .i64 aD)).setCell ⟨gb889, 1, none⟩ (.int .i64 aE)).setCell ⟨gb889, 2, none⟩ (.int .i64 aG)).setCell ⟨gb889, 3, none⟩ (.slice Ao35 ak.length co35))) := ⟨TB⟩
        (try clear aj)
        (try clear al)
        (try clear am)
        (try clear aq)
        (try clear ap)
        (try clear ao)
        (try clear an)
        (try clear aC)
        (try clear aA)
        (try clear aa)
        (try clear ae)
        (try clear ab)
        (try clear ac)
        (try clear HB)
        generalize ((((w30.setCell ⟨gb889, 0, none⟩ (.int .i64 aD)).setCell ⟨gb889, 1, none⟩ (.int .i64 aE)).setCell ⟨gb889, 2, none⟩ (.int .i64 aG)).setCell ⟨gb889, 3, none⟩ (.slice Ao35 ak.length co35)) = w53 at n0_ n1_ n2_ n3_ n4_ n5_ n6_ n7_ n8_ n9_ ay aI aR aU ⊢
        have aj := n0_
        have al := n1_
        have am := n2_
        have aq := n3_
        have ap := n4_
        have ao := n5_
        have an := n6_
        have aC := n7_
        have aA := n8_
        have aa := n9_
        have ae := ay
        have ab := aI
        have ac := aR
        have HB := aU
        clear n0_ n1_ n2_ n3_ n4_ n5_ n6_ n7_ n8_ n9_ ay aI aR aU
        replace aj := aM (Kd.R_drew aj.out)
        replace al := aM (Kd.R_drew al.out)
        replace am := aM (Kd.R_drew am.out)
        replace aq := aM (Kd.R_drew aq.out)
        replace ap := aM (Kd.R_drew ap.out)
        replace ao := aM (Kd.R_drew ao.out)
        replace an := aM (Kd.R_drew an.out)
        replace aC := aM (Kd.R_drew aC.out)
        replace aA := aM (Kd.R_drew aA.out)
        replace aa := aM (blk_drew aa.out)
        replace ae := aM (blk_drew ae.out)
        replace ab := aM (blk_drew ab.out)
        replace ac := aM (blk_drew ac.out)
        replace HB := aM (below_drew1 HB.out)
        obtain ⟨Ao55, co55, eo55⟩ := Kd.R_slice ap.out
        (first | subst eo55 | (injection eo55 with f1_ f2_ f3_; have f4_ := f1_.symm; have f5_ := f3_.symm; clear f1_ f2_ f3_; subst f4_; subst f5_))
        refine start_ (n := 55) (S := fun w' => w'.cell? ⟨gb868, 0, none⟩ = some (.int .i64 aN) ∧ w'.cell? ⟨gb868, 1, none⟩ = some (.int .i64 aQ) ∧ w'.cell? ⟨gb878, 0, none⟩ = some (.int .i64 aJ) ∧ w'.cell? ⟨gb878, 1, none⟩ = some (.int .i64 aK) ∧ w'.cell? ⟨gb878, 2, none⟩ = some (.int .i64 aL) ∧ w'.cell? ⟨gb878, 3, none⟩ = some (.slice Ao28 au.length co28) ∧ w'.cell? ⟨gb889, 0, none⟩ = some (.int .i64 aD) ∧ w'.cell? ⟨gb889, 1, none⟩ = some (.int .i64 aE) ∧ w'.cell? ⟨gb889, 2, none⟩ = some (.int .i64 aG) ∧ w'.cell? ⟨gb889, 3, none⟩ = some (.slice Ao35 ak.length co35) ∧ w'.cell? ⟨gb858, 0, none⟩ = some (.int .i64 aw) ∧ w'.cell? ⟨gb858, 1, none⟩ = some (.int .i64 ax) ∧ w'.cell? ⟨gb858, 2, none⟩ = some (.int .i64 az) ∧ w'.cell? ⟨gb858, 3, none⟩ = some (.slice Ao16 ai.length co16)) (ds := []) (Array.replicate 55 false) (by kernel_rfl) rfl rfl ⟨(blk_cell ae.out 0).trans rfl, (blk_cell ae.out 1).trans rfl, (blk_cell ab.out 0).trans rfl, (blk_cell ab.out 1).trans rfl, (blk_cell ab.out 2).trans rfl, (blk_cell ab.out 3).trans rfl, (blk_cell ac.out 0).trans rfl, (blk_cell ac.out 1).trans rfl, (blk_cell ac.out 2).trans rfl, (blk_cell ac.out 3).trans rfl, (blk_cell aa.out 0).trans rfl, (blk_cell aa.out 1).trans rfl, (blk_cell aa.out 2).trans rfl, (blk_cell aa.out 3).trans rfl⟩ (fun hHeld => ?_); refine with_tabW laws_FnScans.tab9 laws_FnScans.bits9 (fun HT_ HW_ => ?_)
        generalize w53.drew = w54 at aj al am aq ap ao an aC aA aa ae ab ac HB aj al am aq ap ao an aC aA hHeld ⊢
        refine pP 0 (some 51) ?_
        refine pP 2 (some 53) ?_
        refine pP 4 (some 55) ?_
        refine pP 6 (some 57) ?_
        refine pT 1 (some 52) ?_
        refine pT 5 (some 56) ?_
        refine pO 3 (some 54) (fun K hK => ?_)
        refine gG Try.func27 #[.slice Ao55 bd.length co55, .agg #[.int .i64 aN, .int .i64 aQ], .int .i64 bO] ?_
        with_reducible refine (impl_FindSum.calls k _ _ bd aN aQ bO bg _ ?side1 ?side2 A36.out).mono ?_
        (case side1 => have X_ := (Kd.R_reads' ap.out).2.2; exact TC)
        (case side2 => exact (Kd.R_reads' ap.out).2.1)
        rintro e w56 ⟨rfl, hb⟩
        refine ⟨_, rfl, ?_⟩
        have n0_ := aM (Kd.R_below (by have X_ := aj.out; exact TR) hb)
        have n1_ := aM (Kd.R_below (by have X_ := al.out; exact TR) hb)
        have n2_ := aM (Kd.R_below (by have X_ := am.out; exact TR) hb)
        have n3_ := aM (Kd.R_below (by have X_ := aq.out; exact TR) hb)
        have n4_ := aM (Kd.R_below (by have X_ := ap.out; exact TR) hb)
        have n5_ := aM (Kd.R_below (by have X_ := ao.out; exact TR) hb)
        have n6_ := aM (Kd.R_below (by have X_ := an.out; exact TR) hb)
        have n7_ := aM (Kd.R_below (by have X_ := aC.out; exact TR) hb)
        have n8_ := aM (Kd.R_below (by have X_ := aA.out; exact TR) hb)
        have n9_ := aM (blk_below (g := gb858) (o := .cells #[.int .i64 aw, .int .i64 ax, .int .i64 az, .slice Ao16 ai.length co16] 28 (0, 0)) TK hb)
        have ay := aM (blk_below (g := gb868) (o := .cells #[.int .i64 aN, .int .i64 aQ] 48 (0, 0)) TK hb)
        have aI := aM (blk_below (g := gb878) (o := .cells #[.int .i64 aJ, .int .i64 aK, .int .i64 aL, .slice Ao28 au.length co28] 28 (0, 0)) TK hb)
        have aR := aM (blk_below (g := gb889) (o := .cells #[.int .i64 aD, .int .i64 aE, .int .i64 aG, .slice Ao35 ak.length co35] 28 (0, 0)) TK hb)
        have aU := aM (below_step TB hb)
        clear aj
        clear al
        clear am
        clear aq
        clear ap
        clear ao
        clear an
        clear aC
        clear aA
        clear aa
        clear ae
        clear ab
        clear ac
        clear HB
        have aj := n0_
        have al := n1_
        have am := n2_
        have aq := n3_
        have ap := n4_
        have ao := n5_
        have an := n6_
        have aC := n7_
        have aA := n8_
        have aa := n9_
        have ae := ay
        have ab := aI
        have ac := aR
        have HB := aU
        clear n0_ n1_ n2_ n3_ n4_ n5_ n6_ n7_ n8_ n9_ ay aI aR aU
        (try clear hb)
        (try clear hb2)
        (try clear hk)
        (try clear hi)
        refine hK.out _ _ ⟨(blk_cell ae.out 0).trans rfl, (blk_cell ae.out 1).trans rfl, (blk_cell ab.out 0).trans rfl, (blk_cell ab.out 1).trans rfl, (blk_cell ab.out 2).trans rfl, (blk_cell ab.out 3).trans rfl, (blk_cell ac.out 0).trans rfl, (blk_cell ac.out 1).trans rfl, (blk_cell ac.out 2).trans rfl, (blk_cell ac.out 3).trans rfl, (blk_cell aa.out 0).trans rfl, (blk_cell aa.out 1).trans rfl, (blk_cell aa.out 2).trans rfl, (blk_cell aa.out 3).trans rfl⟩ (fun hHeld => ?_)
        clear hK K
        refine nR ?_
        refine pO 7 (some 58) (fun K hK => ?_)
        refine gG Try.func28 #[.slice Ao55 bd.length co55, .agg #[.int .i64 aN, .int .i64 aQ], .int .i64 bO] ?_
        with_reducible refine (spec_FindSum.calls k _ _ bd aN aQ bO bh _ ?side1 ?side2 A37.out).mono ?_
        (case side1 => have X_ := (Kd.R_reads' ap.out).2.2; exact TC)
        (case side2 => exact (Kd.R_reads' ap.out).2.1)
        rintro e w57 ⟨rfl, hb⟩
        refine ⟨_, rfl, ?_⟩
        have n0_ := aM (Kd.R_below (by have X_ := aj.out; exact TR) hb)
        have n1_ := aM (Kd.R_below (by have X_ := al.out; exact TR) hb)
        have n2_ := aM (Kd.R_below (by have X_ := am.out; exact TR) hb)
        have n3_ := aM (Kd.R_below (by have X_ := aq.out; exact TR) hb)
        have n4_ := aM (Kd.R_below (by have X_ := ap.out; exact TR) hb)
        have n5_ := aM (Kd.R_below (by have X_ := ao.out; exact TR) hb)
        have n6_ := aM (Kd.R_below (by have X_ := an.out; exact TR) hb)
        have n7_ := aM (Kd.R_below (by have X_ := aC.out; exact TR) hb)
        have n8_ := aM (Kd.R_below (by have X_ := aA.out; exact TR) hb)
        have n9_ := aM (blk_below (g := gb858) (o := .cells #[.int .i64 aw, .int .i64 ax, .int .i64 az, .slice Ao16 ai.length co16] 28 (0, 0)) TK hb)
        have ay := aM (blk_below (g := gb868) (o := .cells #[.int .i64 aN, .int .i64 aQ] 48 (0, 0)) TK hb)
        have aI := aM (blk_below (g := gb878) (o := .cells #[.int .i64 aJ, .int .i64 aK, .int .i64 aL, .slice Ao28 au.length co28] 28 (0, 0)) TK hb)
        have aR := aM (blk_below (g := gb889) (o := .cells #[.int .i64 aD, .int .i64 aE, .int .i64 aG, .slice Ao35 ak.length co35] 28 (0, 0)) TK hb)
        have aU := aM (below_step TB hb)
        clear aj
        clear al
        clear am
        clear aq
        clear ap
        clear ao
        clear an
        clear aC
        clear aA
        clear aa
        clear ae
        clear ab
        clear ac
        clear HB
        have aj := n0_
        have al := n1_
        have am := n2_
        have aq := n3_
        have ap := n4_
        have ao := n5_
        have an := n6_
        have aC := n7_
        have aA := n8_
        have aa := n9_
        have ae := ay
        have ab := aI
        have ac := aR
        have HB := aU
        clear n0_ n1_ n2_ n3_ n4_ n5_ n6_ n7_ n8_ n9_ ay aI aR aU
        (try clear hb)
        (try clear hb2)
        (try clear hk)
        (try clear hi)
        obtain ⟨bk, bj, eo58⟩ := Kd.R_slice ao.out
        (first | subst eo58 | (injection eo58 with f1_ f2_ f3_; have f4_ := f1_.symm; have f5_ := f3_.symm; clear f1_ f2_ f3_; subst f4_; subst f5_))
        refine hK.out _ _ ⟨(blk_cell ae.out 0).trans rfl, (blk_cell ae.out 1).trans rfl, (blk_cell ab.out 0).trans rfl, (blk_cell ab.out 1).trans rfl, (blk_cell ab.out 2).trans rfl, (blk_cell ab.out 3).trans rfl, (blk_cell ac.out 0).trans rfl, (blk_cell ac.out 1).trans rfl, (blk_cell ac.out 2).trans rfl, (blk_cell ac.out 3).trans rfl, (blk_cell aa.out 0).trans rfl, (blk_cell aa.out 1).trans rfl, (blk_cell aa.out 2).trans rfl, (blk_cell aa.out 3).trans rfl⟩ (fun hHeld => ?_)
        clear hK K
        refine nR ?_
        refine pP 8 (some 59) ?_
        refine pP 9 (some 60) ?_
        refine pP 10 (some 61) ?_
        refine pP 13 (some 64) ?_
        refine pT 11 (some 62) ?_
        refine pT 14 (some 65) ?_
        refine pO 12 (some 63) (fun K hK => ?_)
        refine gG Try.func29 #[.slice bk aW.length bj, .agg #[.int .i64 aJ, .int .i64 aK, .int .i64 aL, .slice Ao28 au.length co28]] ?_
        with_reducible refine (impl_Found.calls k _ _ aW aJ aK aL _ _ au bb _ ?side1 ?side2 ?side3 ?side4 A39.out).mono ?_
        (case side1 => have X_ := (Kd.R_reads' ao.out).2.2; exact TC)
        (case side2 => exact (Kd.R_reads' ao.out).2.1)
        (case side3 => have X_ := (Kd.R_reads' an.out).2.2; exact TC)
        (case side4 => exact (Kd.R_reads' an.out).2.1)
        rintro e w59 ⟨rfl, hb⟩
        refine ⟨_, rfl, ?_⟩
        have n0_ := aM (Kd.R_below (by have X_ := aj.out; exact TR) hb)
        have n1_ := aM (Kd.R_below (by have X_ := al.out; exact TR) hb)
        have n2_ := aM (Kd.R_below (by have X_ := am.out; exact TR) hb)
        have n3_ := aM (Kd.R_below (by have X_ := aq.out; exact TR) hb)
        have n4_ := aM (Kd.R_below (by have X_ := ap.out; exact TR) hb)
        have n5_ := aM (Kd.R_below (by have X_ := ao.out; exact TR) hb)
        have n6_ := aM (Kd.R_below (by have X_ := an.out; exact TR) hb)
        have n7_ := aM (Kd.R_below (by have X_ := aC.out; exact TR) hb)
        have n8_ := aM (Kd.R_below (by have X_ := aA.out; exact TR) hb)
        have n9_ := aM (blk_below (g := gb858) (o := .cells #[.int .i64 aw, .int .i64 ax, .int .i64 az, .slice Ao16 ai.length co16] 28 (0, 0)) TK hb)
        have ay := aM (blk_below (g := gb868) (o := .cells #[.int .i64 aN, .int .i64 aQ] 48 (0, 0)) TK hb)
        have aI := aM (blk_below (g := gb878) (o := .cells #[.int .i64 aJ, .int .i64 aK, .int .i64 aL, .slice Ao28 au.length co28] 28 (0, 0)) TK hb)
        have aR := aM (blk_below (g := gb889) (o := .cells #[.int .i64 aD, .int .i64 aE, .int .i64 aG, .slice Ao35 ak.length co35] 28 (0, 0)) TK hb)
        have aU := aM (below_step TB hb)
        clear aj
        clear al
        clear am
        clear aq
        clear ap
        clear ao
        clear an
        clear aC
        clear aA
        clear aa
        clear ae
        clear ab
        clear ac
        clear HB
        have aj := n0_
        have al := n1_
        have am := n2_
        have aq := n3_
        have ap := n4_
        have ao := n5_
        have an := n6_
        have aC := n7_
        have aA := n8_
        have aa := n9_
        have ae := ay
        have ab := aI
        have ac := aR
        have HB := aU
        clear n0_ n1_ n2_ n3_ n4_ n5_ n6_ n7_ n8_ n9_ ay aI aR aU
        (try clear hb)
        (try clear hb2)
        (try clear hk)
        (try clear hi)
        refine hK.out _ _ ⟨(blk_cell ae.out 0).trans rfl, (blk_cell ae.out 1).trans rfl, (blk_cell ab.out 0).trans rfl, (blk_cell ab.out 1).trans rfl, (blk_cell ab.out 2).trans rfl, (blk_cell ab.out 3).trans rfl, (blk_cell ac.out 0).trans rfl, (blk_cell ac.out 1).trans rfl, (blk_cell ac.out 2).trans rfl, (blk_cell ac.out 3).trans rfl, (blk_cell aa.out 0).trans rfl, (blk_cell aa.out 1).trans rfl, (blk_cell aa.out 2).trans rfl, (blk_cell aa.out 3).trans rfl⟩ (fun hHeld => ?_)
        clear hK K
        refine nR ?_
        refine pO 15 (some 66) (fun K hK => ?_)
        refine gG Try.func30 #[.slice bk aW.length bj, .agg #[.int .i64 aJ, .int .i64 aK, .int .i64 aL, .slice Ao28 au.length co28]] ?_
        with_reducible refine (spec_Found.calls k _ _ aW aJ aK aL _ _ au be _ ?side1 ?side2 ?side3 ?side4 A40.out).mono ?_
        (case side1 => have X_ := (Kd.R_reads' ao.out).2.2; exact TC)
        (case side2 => exact (Kd.R_reads' ao.out).2.1)
        (case side3 => have X_ := (Kd.R_reads' an.out).2.2; exact TC)
        (case side4 => exact (Kd.R_reads' an.out).2.1)
        rintro e w60 ⟨rfl, hb⟩
        refine ⟨_, rfl, ?_⟩
        have n0_ := aM (Kd.R_below (by have X_ := aj.out; exact TR) hb)
        have n1_ := aM (Kd.R_below (by have X_ := al.out; exact TR) hb)
        have n2_ := aM (Kd.R_below (by have X_ := am.out; exact TR) hb)
        have n3_ := aM (Kd.R_below (by have X_ := aq.out; exact TR) hb)
        have n4_ := aM (Kd.R_below (by have X_ := ap.out; exact TR) hb)
        have n5_ := aM (Kd.R_below (by have X_ := ao.out; exact TR) hb)
        have n6_ := aM (Kd.R_below (by have X_ := an.out; exact TR) hb)
        have n7_ := aM (Kd.R_below (by have X_ := aC.out; exact TR) hb)
        have n8_ := aM (Kd.R_below (by have X_ := aA.out; exact TR) hb)
        have n9_ := aM (blk_below (g := gb858) (o := .cells #[.int .i64 aw, .int .i64 ax, .int .i64 az, .slice Ao16 ai.length co16] 28 (0, 0)) TK hb)
        have ay := aM (blk_below (g := gb868) (o := .cells #[.int .i64 aN, .int .i64 aQ] 48 (0, 0)) TK hb)
        have aI := aM (blk_below (g := gb878) (o := .cells #[.int .i64 aJ, .int .i64 aK, .int .i64 aL, .slice Ao28 au.length co28] 28 (0, 0)) TK hb)
        have aR := aM (blk_below (g := gb889) (o := .cells #[.int .i64 aD, .int .i64 aE, .int .i64 aG, .slice Ao35 ak.length co35] 28 (0, 0)) TK hb)
        have aU := aM (below_step TB hb)
        clear aj
        clear al
        clear am
        clear aq
        clear ap
        clear ao
        clear an
        clear aC
        clear aA
        clear aa
        clear ae
        clear ab
        clear ac
        clear HB
        have aj := n0_
        have al := n1_
        have am := n2_
        have aq := n3_
        have ap := n4_
        have ao := n5_
        have an := n6_
        have aC := n7_
        have aA := n8_
        have aa := n9_
        have ae := ay
        have ab := aI
        have ac := aR
        have HB := aU
        clear n0_ n1_ n2_ n3_ n4_ n5_ n6_ n7_ n8_ n9_ ay aI aR aU
        (try clear hb)
        (try clear hb2)
        (try clear hk)
        (try clear hi)
        refine hK.out _ _ ⟨(blk_cell ae.out 0).trans rfl, (blk_cell ae.out 1).trans rfl, (blk_cell ab.out 0).trans rfl, (blk_cell ab.out 1).trans rfl, (blk_cell ab.out 2).trans rfl, (blk_cell ab.out 3).trans rfl, (blk_cell ac.out 0).trans rfl, (blk_cell ac.out 1).trans rfl, (blk_cell ac.out 2).trans rfl, (blk_cell ac.out 3).trans rfl, (blk_cell aa.out 0).trans rfl, (blk_cell aa.out 1).trans rfl, (blk_cell aa.out 2).trans rfl, (blk_cell aa.out 3).trans rfl⟩ (fun hHeld => ?_)
        clear hK K
        refine nR ?_
        refine pP 16 (some 67) ?_
        refine pP 17 (some 68) ?_
        refine pP 18 (some 69) ?_
        refine pP 19 (some 70) ?_
        refine pP 22 (some 73) ?_
        refine pT 20 (some 71) ?_
        refine pT 23 (some 74) ?_
        refine pO 21 (some 72) (fun K hK => ?_)
        refine gG Try.func19 #[.slice bk aW.length bj, .agg #[.int .i64 aJ, .int .i64 aK, .int .i64 aL, .slice Ao28 au.length co28]] ?_
        with_reducible refine (impl_Lacking.calls k _ _ aW aJ aK aL _ _ au bi _ ?side1 ?side2 ?side3 ?side4 A42.out).mono ?_
        (case side1 => have X_ := (Kd.R_reads' ao.out).2.2; exact TC)
        (case side2 => exact (Kd.R_reads' ao.out).2.1)
        (case side3 => have X_ := (Kd.R_reads' an.out).2.2; exact TC)
        (case side4 => exact (Kd.R_reads' an.out).2.1)
        rintro e w61 ⟨rfl, hb⟩
        refine ⟨_, rfl, ?_⟩
        have n0_ := aM (Kd.R_below (by have X_ := aj.out; exact TR) hb)
        have n1_ := aM (Kd.R_below (by have X_ := al.out; exact TR) hb)
        have n2_ := aM (Kd.R_below (by have X_ := am.out; exact TR) hb)
        have n3_ := aM (Kd.R_below (by have X_ := aq.out; exact TR) hb)
        have n4_ := aM (Kd.R_below (by have X_ := ap.out; exact TR) hb)
        have n5_ := aM (Kd.R_below (by have X_ := ao.out; exact TR) hb)
        have n6_ := aM (Kd.R_below (by have X_ := an.out; exact TR) hb)
        have n7_ := aM (Kd.R_below (by have X_ := aC.out; exact TR) hb)
        have n8_ := aM (Kd.R_below (by have X_ := aA.out; exact TR) hb)
        have n9_ := aM (blk_below (g := gb858) (o := .cells #[.int .i64 aw, .int .i64 ax, .int .i64 az, .slice Ao16 ai.length co16] 28 (0, 0)) TK hb)
        have ay := aM (blk_below (g := gb868) (o := .cells #[.int .i64 aN, .int .i64 aQ] 48 (0, 0)) TK hb)
        have aI := aM (blk_below (g := gb878) (o := .cells #[.int .i64 aJ, .int .i64 aK, .int .i64 aL, .slice Ao28 au.length co28] 28 (0, 0)) TK hb)
        have aR := aM (blk_below (g := gb889) (o := .cells #[.int .i64 aD, .int .i64 aE, .int .i64 aG, .slice Ao35 ak.length co35] 28 (0, 0)) TK hb)
        have aU := aM (below_step TB hb)
        clear aj
        clear al
        clear am
        clear aq
        clear ap
        clear ao
        clear an
        clear aC
        clear aA
        clear aa
        clear ae
        clear ab
        clear ac
        clear HB
        have aj := n0_
        have al := n1_
        have am := n2_
        have aq := n3_
        have ap := n4_
        have ao := n5_
        have an := n6_
        have aC := n7_
        have aA := n8_
        have aa := n9_
        have ae := ay
        have ab := aI
        have ac := aR
        have HB := aU
        clear n0_ n1_ n2_ n3_ n4_ n5_ n6_ n7_ n8_ n9_ ay aI aR aU
        (try clear hb)
        (try clear hb2)
        (try clear hk)
        (try clear hi)
        refine hK.out _ _ ⟨(blk_cell ae.out 0).trans rfl, (blk_cell ae.out 1).trans rfl, (blk_cell ab.out 0).trans rfl, (blk_cell ab.out 1).trans rfl, (blk_cell ab.out 2).trans rfl, (blk_cell ab.out 3).trans rfl, (blk_cell ac.out 0).trans rfl, (blk_cell ac.out 1).trans rfl, (blk_cell ac.out 2).trans rfl, (blk_cell ac.out 3).trans rfl, (blk_cell aa.out 0).trans rfl, (blk_cell aa.out 1).trans rfl, (blk_cell aa.out 2).trans rfl, (blk_cell aa.out 3).trans rfl⟩ (fun hHeld => ?_)
        clear hK K
        refine nR ?_
        refine pO 24 (some 75) (fun K hK => ?_)
        refine gG Try.func31 #[.slice bk aW.length bj, .agg #[.int .i64 aJ, .int .i64 aK, .int .i64 aL, .slice Ao28 au.length co28]] ?_
        with_reducible refine (spec_Lacking.calls k _ _ aW aJ aK aL _ _ au bn _ ?side1 ?side2 ?side3 ?side4 A43.out).mono ?_
        (case side1 => have X_ := (Kd.R_reads' ao.out).2.2; exact TC)
        (case side2 => exact (Kd.R_reads' ao.out).2.1)
        (case side3 => have X_ := (Kd.R_reads' an.out).2.2; exact TC)
        (case side4 => exact (Kd.R_reads' an.out).2.1)
        rintro e w62 ⟨rfl, hb⟩
        refine ⟨_, rfl, ?_⟩
        have n0_ := aM (Kd.R_below (by have X_ := aj.out; exact TR) hb)
        have n1_ := aM (Kd.R_below (by have X_ := al.out; exact TR) hb)
        have n2_ := aM (Kd.R_below (by have X_ := am.out; exact TR) hb)
        have n3_ := aM (Kd.R_below (by have X_ := aq.out; exact TR) hb)
        have n4_ := aM (Kd.R_below (by have X_ := ap.out; exact TR) hb)
        have n5_ := aM (Kd.R_below (by have X_ := ao.out; exact TR) hb)
        have n6_ := aM (Kd.R_below (by have X_ := an.out; exact TR) hb)
        have n7_ := aM (Kd.R_below (by have X_ := aC.out; exact TR) hb)
        have n8_ := aM (Kd.R_below (by have X_ := aA.out; exact TR) hb)
        have n9_ := aM (blk_below (g := gb858) (o := .cells #[.int .i64 aw, .int .i64 ax, .int .i64 az, .slice Ao16 ai.length co16] 28 (0, 0)) TK hb)
        have ay := aM (blk_below (g := gb868) (o := .cells #[.int .i64 aN, .int .i64 aQ] 48 (0, 0)) TK hb)
        have aI := aM (blk_below (g := gb878) (o := .cells #[.int .i64 aJ, .int .i64 aK, .int .i64 aL, .slice Ao28 au.length co28] 28 (0, 0)) TK hb)
        have aR := aM (blk_below (g := gb889) (o := .cells #[.int .i64 aD, .int .i64 aE, .int .i64 aG, .slice Ao35 ak.length co35] 28 (0, 0)) TK hb)
        have aU := aM (below_step TB hb)
        clear aj
        clear al
        clear am
        clear aq
        clear ap
        clear ao
        clear an
        clear aC
        clear aA
        clear aa
        clear ae
        clear ab
        clear ac
        clear HB
        have aj := n0_
        have al := n1_
        have am := n2_
        have aq := n3_
        have ap := n4_
        have ao := n5_
        have an := n6_
        have aC := n7_
        have aA := n8_
        have aa := n9_
        have ae := ay
        have ab := aI
        have ac := aR
        have HB := aU
        clear n0_ n1_ n2_ n3_ n4_ n5_ n6_ n7_ n8_ n9_ ay aI aR aU
        (try clear hb)
        (try clear hb2)
        (try clear hk)
        (try clear hi)
        refine hK.out _ _ ⟨(blk_cell ae.out 0).trans rfl, (blk_cell ae.out 1).trans rfl, (blk_cell ab.out 0).trans rfl, (blk_cell ab.out 1).trans rfl, (blk_cell ab.out 2).trans rfl, (blk_cell ab.out 3).trans rfl, (blk_cell ac.out 0).trans rfl, (blk_cell ac.out 1).trans rfl, (blk_cell ac.out 2).trans rfl, (blk_cell ac.out 3).trans rfl, (blk_cell aa.out 0).trans rfl, (blk_cell aa.out 1).trans rfl, (blk_cell aa.out 2).trans rfl, (blk_cell aa.out 3).trans rfl⟩ (fun hHeld => ?_)
        clear hK K
        refine nR ?_
        refine pP 25 (some 76) ?_
        refine pP 26 (some 77) ?_
        refine pP 27 (some 78) ?_
        refine pP 28 (some 79) ?_
        refine pP 31 (some 82) ?_
        refine pT 29 (some 80) ?_
        refine pT 32 (some 83) ?_
        refine pO 30 (some 81) (fun K hK => ?_)
        refine gG Try.func20 #[.slice bk aW.length bj, .agg #[.int .i64 aJ, .int .i64 aK, .int .i64 aL, .slice Ao28 au.length co28]] ?_
        with_reducible refine (impl_BytesLacking.calls k _ _ aW aJ aK aL _ _ au bm _ ?side1 ?side2 ?side3 ?side4 A45.out).mono ?_
        (case side1 => have X_ := (Kd.R_reads' ao.out).2.2; exact TC)
        (case side2 => exact (Kd.R_reads' ao.out).2.1)
        (case side3 => have X_ := (Kd.R_reads' an.out).2.2; exact TC)
        (case side4 => exact (Kd.R_reads' an.out).2.1)
        rintro e w63 ⟨rfl, hb⟩
        refine ⟨_, rfl, ?_⟩
        have n0_ := aM (Kd.R_below (by have X_ := aj.out; exact TR) hb)
        have n1_ := aM (Kd.R_below (by have X_ := al.out; exact TR) hb)
        have n2_ := aM (Kd.R_below (by have X_ := am.out; exact TR) hb)
        have n3_ := aM (Kd.R_below (by have X_ := aq.out; exact TR) hb)
        have n4_ := aM (Kd.R_below (by have X_ := ap.out; exact TR) hb)
        have n5_ := aM (Kd.R_below (by have X_ := ao.out; exact TR) hb)
        have n6_ := aM (Kd.R_below (by have X_ := an.out; exact TR) hb)
        have n7_ := aM (Kd.R_below (by have X_ := aC.out; exact TR) hb)
        have n8_ := aM (Kd.R_below (by have X_ := aA.out; exact TR) hb)
        have n9_ := aM (blk_below (g := gb858) (o := .cells #[.int .i64 aw, .int .i64 ax, .int .i64 az, .slice Ao16 ai.length co16] 28 (0, 0)) TK hb)
        have ay := aM (blk_below (g := gb868) (o := .cells #[.int .i64 aN, .int .i64 aQ] 48 (0, 0)) TK hb)
        have aI := aM (blk_below (g := gb878) (o := .cells #[.int .i64 aJ, .int .i64 aK, .int .i64 aL, .slice Ao28 au.length co28] 28 (0, 0)) TK hb)
        have aR := aM (blk_below (g := gb889) (o := .cells #[.int .i64 aD, .int .i64 aE, .int .i64 aG, .slice Ao35 ak.length co35] 28 (0, 0)) TK hb)
        have aU := aM (below_step TB hb)
        clear aj
        clear al
        clear am
        clear aq
        clear ap
        clear ao
        clear an
        clear aC
        clear aA
        clear aa
        clear ae
        clear ab
        clear ac
        clear HB
        have aj := n0_
        have al := n1_
        have am := n2_
        have aq := n3_
        have ap := n4_
        have ao := n5_
        have an := n6_
        have aC := n7_
        have aA := n8_
        have aa := n9_
        have ae := ay
        have ab := aI
        have ac := aR
        have HB := aU
        clear n0_ n1_ n2_ n3_ n4_ n5_ n6_ n7_ n8_ n9_ ay aI aR aU
        (try clear hb)
        (try clear hb2)
        (try clear hk)
        (try clear hi)
        refine hK.out _ _ ⟨(blk_cell ae.out 0).trans rfl, (blk_cell ae.out 1).trans rfl, (blk_cell ab.out 0).trans rfl, (blk_cell ab.out 1).trans rfl, (blk_cell ab.out 2).trans rfl, (blk_cell ab.out 3).trans rfl, (blk_cell ac.out 0).trans rfl, (blk_cell ac.out 1).trans rfl, (blk_cell ac.out 2).trans rfl, (blk_cell ac.out 3).trans rfl, (blk_cell aa.out 0).trans rfl, (blk_cell aa.out 1).trans rfl, (blk_cell aa.out 2).trans rfl, (blk_cell aa.out 3).trans rfl⟩ (fun hHeld => ?_)
        clear hK K
        refine nR ?_
        refine pO 33 (some 84) (fun K hK => ?_)
        refine gG Try.func32 #[.slice bk aW.length bj, .agg #[.int .i64 aJ, .int .i64 aK, .int .i64 aL, .slice Ao28 au.length co28]] ?_
        with_reducible refine (spec_BytesLacking.calls k _ _ aW aJ aK aL _ _ au bp _ ?side1 ?side2 ?side3 ?side4 A46.out).mono ?_
        (case side1 => have X_ := (Kd.R_reads' ao.out).2.2; exact TC)
        (case side2 => exact (Kd.R_reads' ao.out).2.1)
        (case side3 => have X_ := (Kd.R_reads' an.out).2.2; exact TC)
        (case side4 => exact (Kd.R_reads' an.out).2.1)
        rintro e w64 ⟨rfl, hb⟩
        refine ⟨_, rfl, ?_⟩
        have n0_ := aM (Kd.R_below (by have X_ := aj.out; exact TR) hb)
        have n1_ := aM (Kd.R_below (by have X_ := al.out; exact TR) hb)
        have n2_ := aM (Kd.R_below (by have X_ := am.out; exact TR) hb)
        have n3_ := aM (Kd.R_below (by have X_ := aq.out; exact TR) hb)
        have n4_ := aM (Kd.R_below (by have X_ := ap.out; exact TR) hb)
        have n5_ := aM (Kd.R_below (by have X_ := ao.out; exact TR) hb)
        have n6_ := aM (Kd.R_below (by have X_ := an.out; exact TR) hb)
        have n7_ := aM (Kd.R_below (by have X_ := aC.out; exact TR) hb)
        have n8_ := aM (Kd.R_below (by have X_ := aA.out; exact TR) hb)
        have n9_ := aM (blk_below (g := gb858) (o := .cells #[.int .i64 aw, .int .i64 ax, .int .i64 az, .slice Ao16 ai.length co16] 28 (0, 0)) TK hb)
        have ay := aM (blk_below (g := gb868) (o := .cells #[.int .i64 aN, .int .i64 aQ] 48 (0, 0)) TK hb)
        have aI := aM (blk_below (g := gb878) (o := .cells #[.int .i64 aJ, .int .i64 aK, .int .i64 aL, .slice Ao28 au.length co28] 28 (0, 0)) TK hb)
        have aR := aM (blk_below (g := gb889) (o := .cells #[.int .i64 aD, .int .i64 aE, .int .i64 aG, .slice Ao35 ak.length co35] 28 (0, 0)) TK hb)
        have aU := aM (below_step TB hb)
        clear aj
        clear al
        clear am
        clear aq
        clear ap
        clear ao
        clear an
        clear aC
        clear aA
        clear aa
        clear ae
        clear ab
        clear ac
        clear HB
        have aj := n0_
        have al := n1_
        have am := n2_
        have aq := n3_
        have ap := n4_
        have ao := n5_
        have an := n6_
        have aC := n7_
        have aA := n8_
        have aa := n9_
        have ae := ay
        have ab := aI
        have ac := aR
        have HB := aU
        clear n0_ n1_ n2_ n3_ n4_ n5_ n6_ n7_ n8_ n9_ ay aI aR aU
        (try clear hb)
        (try clear hb2)
        (try clear hk)
        (try clear hi)
        obtain ⟨Ao65, co65, eo65⟩ := Kd.R_slice aC.out
        (first | subst eo65 | (injection eo65 with f1_ f2_ f3_; have f4_ := f1_.symm; have f5_ := f3_.symm; clear f1_ f2_ f3_; subst f4_; subst f5_))
        refine hK.out _ _ ⟨(blk_cell ae.out 0).trans rfl, (blk_cell ae.out 1).trans rfl, (blk_cell ab.out 0).trans rfl, (blk_cell ab.out 1).trans rfl, (blk_cell ab.out 2).trans rfl, (blk_cell ab.out 3).trans rfl, (blk_cell ac.out 0).trans rfl, (blk_cell ac.out 1).trans rfl, (blk_cell ac.out 2).trans rfl, (blk_cell ac.out 3).trans rfl, (blk_cell aa.out 0).trans rfl, (blk_cell aa.out 1).trans rfl, (blk_cell aa.out 2).trans rfl, (blk_cell aa.out 3).trans rfl⟩ (fun hHeld => ?_)
        clear hK K
        refine nR ?_
        refine pP 34 (some 85) ?_
        refine pP 35 (some 86) ?_
        refine pP 36 (some 87) ?_
        refine pP 37 (some 88) ?_
        refine pP 39 (some 90) ?_
        refine pP 41 (some 92) ?_
        refine pP 43 (some 94) ?_
        refine pT 38 (some 89) ?_
        refine pT 42 (some 93) ?_
        refine pO 40 (some 91) (fun K hK => ?_)
        refine gG Try.func33 #[.slice Ao65 bl.length co65, .agg #[.int .i64 aD, .int .i64 aE, .int .i64 aG, .slice Ao35 ak.length co35], .int .i64 bP] ?_
        with_reducible refine (impl_PlaceOf.calls k _ _ bl aD aE aG _ _ ak bP bq _ ?side1 ?side2 ?side3 ?side4 A48.out).mono ?_
        (case side1 => have X_ := (Kd.R_reads' aC.out).2.2; exact TC)
        (case side2 => exact (Kd.R_reads' aC.out).2.1)
        (case side3 => have X_ := (Kd.R_reads' aA.out).2.2; exact TC)
        (case side4 => exact (Kd.R_reads' aA.out).2.1)
        rintro e w66 ⟨rfl, hb⟩
        refine ⟨_, rfl, ?_⟩
        have n0_ := aM (Kd.R_below (by have X_ := aj.out; exact TR) hb)
        have n1_ := aM (Kd.R_below (by have X_ := al.out; exact TR) hb)
        have n2_ := aM (Kd.R_below (by have X_ := am.out; exact TR) hb)
        have n3_ := aM (Kd.R_below (by have X_ := aq.out; exact TR) hb)
        have n4_ := aM (Kd.R_below (by have X_ := ap.out; exact TR) hb)
        have n5_ := aM (Kd.R_below (by have X_ := ao.out; exact TR) hb)
        have n6_ := aM (Kd.R_below (by have X_ := an.out; exact TR) hb)
        have n7_ := aM (Kd.R_below (by have X_ := aC.out; exact TR) hb)
        have n8_ := aM (Kd.R_below (by have X_ := aA.out; exact TR) hb)
        have n9_ := aM (blk_below (g := gb858) (o := .cells #[.int .i64 aw, .int .i64 ax, .int .i64 az, .slice Ao16 ai.length co16] 28 (0, 0)) TK hb)
        have ay := aM (blk_below (g := gb868) (o := .cells #[.int .i64 aN, .int .i64 aQ] 48 (0, 0)) TK hb)
        have aI := aM (blk_below (g := gb878) (o := .cells #[.int .i64 aJ, .int .i64 aK, .int .i64 aL, .slice Ao28 au.length co28] 28 (0, 0)) TK hb)
        have aR := aM (blk_below (g := gb889) (o := .cells #[.int .i64 aD, .int .i64 aE, .int .i64 aG, .slice Ao35 ak.length co35] 28 (0, 0)) TK hb)
        have aU := aM (below_step TB hb)
        clear aj
        clear al
        clear am
        clear aq
        clear ap
        clear ao
        clear an
        clear aC
        clear aA
        clear aa
        clear ae
        clear ab
        clear ac
        clear HB
        have aj := n0_
        have al := n1_
        have am := n2_
        have aq := n3_
        have ap := n4_
        have ao := n5_
        have an := n6_
        have aC := n7_
        have aA := n8_
        have aa := n9_
        have ae := ay
        have ab := aI
        have ac := aR
        have HB := aU
        clear n0_ n1_ n2_ n3_ n4_ n5_ n6_ n7_ n8_ n9_ ay aI aR aU
        (try clear hb)
        (try clear hb2)
        (try clear hk)
        (try clear hi)
        refine hK.out _ _ ⟨(blk_cell ae.out 0).trans rfl, (blk_cell ae.out 1).trans rfl, (blk_cell ab.out 0).trans rfl, (blk_cell ab.out 1).trans rfl, (blk_cell ab.out 2).trans rfl, (blk_cell ab.out 3).trans rfl, (blk_cell ac.out 0).trans rfl, (blk_cell ac.out 1).trans rfl, (blk_cell ac.out 2).trans rfl, (blk_cell ac.out 3).trans rfl, (blk_cell aa.out 0).trans rfl, (blk_cell aa.out 1).trans rfl, (blk_cell aa.out 2).trans rfl, (blk_cell aa.out 3).trans rfl⟩ (fun hHeld => ?_)
        clear hK K
        refine nR ?_
        refine pO 44 (some 95) (fun K hK => ?_)
        refine gG Try.func34 #[.slice Ao65 bl.length co65, .agg #[.int .i64 aD, .int .i64 aE, .int .i64 aG, .slice Ao35 ak.length co35], .int .i64 bP] ?_
        with_reducible refine (spec_PlaceOf.calls k _ _ bl aD aE aG _ _ ak bP bo _ ?side1 ?side2 ?side3 ?side4 A49.out).mono ?_
        (case side1 => have X_ := (Kd.R_reads' aC.out).2.2; exact TC)
        (case side2 => exact (Kd.R_reads' aC.out).2.1)
        (case side3 => have X_ := (Kd.R_reads' aA.out).2.2; exact TC)
        (case side4 => exact (Kd.R_reads' aA.out).2.1)
        rintro e w67 ⟨rfl, hb⟩
        refine ⟨_, rfl, ?_⟩
        have n0_ := aM (Kd.R_below (by have X_ := aj.out; exact TR) hb)
        have n1_ := aM (Kd.R_below (by have X_ := al.out; exact TR) hb)
        have n2_ := aM (Kd.R_below (by have X_ := am.out; exact TR) hb)
        have n3_ := aM (Kd.R_below (by have X_ := aq.out; exact TR) hb)
        have n4_ := aM (Kd.R_below (by have X_ := ap.out; exact TR) hb)
        have n5_ := aM (Kd.R_below (by have X_ := ao.out; exact TR) hb)
        have n6_ := aM (Kd.R_below (by have X_ := an.out; exact TR) hb)
        have n7_ := aM (Kd.R_below (by have X_ := aC.out; exact TR) hb)
        have n8_ := aM (Kd.R_below (by have X_ := aA.out; exact TR) hb)
        have n9_ := aM (blk_below (g := gb858) (o := .cells #[.int .i64 aw, .int .i64 ax, .int .i64 az, .slice Ao16 ai.length co16] 28 (0, 0)) TK hb)
        have ay := aM (blk_below (g := gb868) (o := .cells #[.int .i64 aN, .int .i64 aQ] 48 (0, 0)) TK hb)
        have aI := aM (blk_below (g := gb878) (o := .cells #[.int .i64 aJ, .int .i64 aK, .int .i64 aL, .slice Ao28 au.length co28] 28 (0, 0)) TK hb)
        have aR := aM (blk_below (g := gb889) (o := .cells #[.int .i64 aD, .int .i64 aE, .int .i64 aG, .slice Ao35 ak.length co35] 28 (0, 0)) TK hb)
        have aU := aM (below_step TB hb)
        clear aj
        clear al
        clear am
        clear aq
        clear ap
        clear ao
        clear an
        clear aC
        clear aA
        clear aa
        clear ae
        clear ab
        clear ac
        clear HB
        have aj := n0_
        have al := n1_
        have am := n2_
        have aq := n3_
        have ap := n4_
        have ao := n5_
        have an := n6_
        have aC := n7_
        have aA := n8_
        have aa := n9_
        have ae := ay
        have ab := aI
        have ac := aR
        have HB := aU
        clear n0_ n1_ n2_ n3_ n4_ n5_ n6_ n7_ n8_ n9_ ay aI aR aU
        (try clear hb)
        (try clear hb2)
        (try clear hk)
        (try clear hi)
        refine hK.out _ _ ⟨(blk_cell ae.out 0).trans rfl, (blk_cell ae.out 1).trans rfl, (blk_cell ab.out 0).trans rfl, (blk_cell ab.out 1).trans rfl, (blk_cell ab.out 2).trans rfl, (blk_cell ab.out 3).trans rfl, (blk_cell ac.out 0).trans rfl, (blk_cell ac.out 1).trans rfl, (blk_cell ac.out 2).trans rfl, (blk_cell ac.out 3).trans rfl, (blk_cell aa.out 0).trans rfl, (blk_cell aa.out 1).trans rfl, (blk_cell aa.out 2).trans rfl, (blk_cell aa.out 3).trans rfl⟩ (fun hHeld => ?_)
        clear hK K
        refine nR ?_
        refine pP 45 (some 96) ?_
        refine pP 46 (some 97) ?_
        refine pP 47 (some 98) ?_
        refine pP 48 (some 99) ?_
        refine pP 49 (some 100) ?_
        refine pT 50 (some 101) ?_
        refine pO 51 (some 102) (fun K hK => ?_)
        refine gG Try.func36 #[.slice aV av.length co17, .agg #[.int .i64 aw, .int .i64 ax, .int .i64 az, .slice Ao16 ai.length co16]] ?_
        with_reducible refine (spec_Places.calls k _ _ av aw ax az _ _ ai cd _ ?side1 ?side2 ?side3 ?side4 A51.out).mono ?_
        (case side1 => have X_ := (Kd.R_reads' aj.out).2.2; exact TC)
        (case side2 => exact (Kd.R_reads' aj.out).2.1)
        (case side3 => have X_ := (Kd.R_reads' am.out).2.2; exact TC)
        (case side4 => exact (Kd.R_reads' am.out).2.1)
        rintro e w68 ⟨v901, rfl, ho0, hb⟩
        refine ⟨_, rfl, ?_⟩
        have n0_ := aM (Kd.R_below (by have X_ := aj.out; exact TR) hb)
        have n1_ := aM (Kd.R_below (by have X_ := al.out; exact TR) hb)
        have n2_ := aM (Kd.R_below (by have X_ := am.out; exact TR) hb)
        have n3_ := aM (Kd.R_elder' (by have X_ := aq.out; exact TR) (Kd.R_base ho0) hb)
        have n4_ := aM (Kd.R_below (by have X_ := ap.out; exact TR) hb)
        have n5_ := aM (Kd.R_below (by have X_ := ao.out; exact TR) hb)
        have n6_ := aM (Kd.R_below (by have X_ := an.out; exact TR) hb)
        have n7_ := aM (Kd.R_below (by have X_ := aC.out; exact TR) hb)
        have n8_ := aM (Kd.R_below (by have X_ := aA.out; exact TR) hb)
        have n9_ := aM (Kd.R_lower (Kd.R_new' ho0 (Kd.R_lt (by have X_ := aq.out; exact TR))) (below_size TB))
        have ay := aM (blk_below (g := gb858) (o := .cells #[.int .i64 aw, .int .i64 ax, .int .i64 az, .slice Ao16 ai.length co16] 28 (0, 0)) TK hb)
        have aI := aM (blk_below (g := gb868) (o := .cells #[.int .i64 aN, .int .i64 aQ] 48 (0, 0)) TK hb)
        have aR := aM (blk_below (g := gb878) (o := .cells #[.int .i64 aJ, .int .i64 aK, .int .i64 aL, .slice Ao28 au.length co28] 28 (0, 0)) TK hb)
        have aU := aM (blk_below (g := gb889) (o := .cells #[.int .i64 aD, .int .i64 aE, .int .i64 aG, .slice Ao35 ak.length co35] 28 (0, 0)) TK hb)
        have n14_ := aM (below_step TB hb)
        clear aj
        clear al
        clear am
        clear aq
        clear ap
        clear ao
        clear an
        clear aC
        clear aA
        clear aa
        clear ae
        clear ab
        clear ac
        clear HB
        have aj := n0_
        have al := n1_
        have am := n2_
        have aq := n3_
        have ap := n4_
        have ao := n5_
        have an := n6_
        have aC := n7_
        have aA := n8_
        have bY := n9_
        have aa := ay
        have ae := aI
        have ab := aR
        have ac := aU
        have HB := n14_
        clear n0_ n1_ n2_ n3_ n4_ n5_ n6_ n7_ n8_ n9_ ay aI aR aU n14_
        (try clear hb)
        (try clear hb2)
        (try clear hk)
        (try clear hi)
        (try clear ho0)
        obtain ⟨Ao69, co69, eo69⟩ := Kd.R_slice aq.out
        (first | subst eo69 | (injection eo69 with f1_ f2_ f3_; have f4_ := f1_.symm; have f5_ := f3_.symm; clear f1_ f2_ f3_; subst f4_; subst f5_))
        obtain ⟨Ao70, co70, eo70⟩ := Kd.R_slice bY.out
        (first | subst eo70 | (injection eo70 with f1_ f2_ f3_; have f4_ := f1_.symm; have f5_ := f3_.symm; clear f1_ f2_ f3_; subst f4_; subst f5_))
        refine hK.out _ _ ⟨(blk_cell ae.out 0).trans rfl, (blk_cell ae.out 1).trans rfl, (blk_cell ab.out 0).trans rfl, (blk_cell ab.out 1).trans rfl, (blk_cell ab.out 2).trans rfl, (blk_cell ab.out 3).trans rfl, (blk_cell ac.out 0).trans rfl, (blk_cell ac.out 1).trans rfl, (blk_cell ac.out 2).trans rfl, (blk_cell ac.out 3).trans rfl, (blk_cell aa.out 0).trans rfl, (blk_cell aa.out 1).trans rfl, (blk_cell aa.out 2).trans rfl, (blk_cell aa.out 3).trans rfl⟩ (fun hHeld => ?_)
        clear hK K
        refine nR ?_
        refine pO 52 (some 103) (fun K hK => ?_)
        refine gG Try.func35 #[.slice Ao69 ar.length co69, .slice Ao70 cd.length co70] ?_
        with_reducible refine (laws_sameInts.calls k _ _ ar _ _ cd t903 _ ?side1 ?side2 ?side3 ?side4 A52.out).mono ?_
        (case side1 => have X_ := (Kd.R_reads' aq.out).2.2; exact TC)
        (case side2 => exact (Kd.R_reads' aq.out).2.1)
        (case side3 => have X_ := (Kd.R_reads' bY.out).2.2; exact TC)
        (case side4 => exact (Kd.R_reads' bY.out).2.1)
        rintro e w' ⟨rfl, ⟨nd, rfl⟩⟩
        refine ⟨_, rfl, ?_⟩
        refine hK.out _ _ ⟨(blk_cell ae.out 0).trans rfl, (blk_cell ae.out 1).trans rfl, (blk_cell ab.out 0).trans rfl, (blk_cell ab.out 1).trans rfl, (blk_cell ab.out 2).trans rfl, (blk_cell ab.out 3).trans rfl, (blk_cell ac.out 0).trans rfl, (blk_cell ac.out 1).trans rfl, (blk_cell ac.out 2).trans rfl, (blk_cell ac.out 3).trans rfl, (blk_cell aa.out 0).trans rfl, (blk_cell aa.out 1).trans rfl, (blk_cell aa.out 2).trans rfl, (blk_cell aa.out 3).trans rfl⟩ (fun hHeld => ?_)
        clear hK K
        refine nR ?_
        refine pP 53 (some 104) ?_
        refine pP 54 (some 105) ?_
        refine done_ (done_of HT_.out (by kernel_rfl)) ?_
        try go_wp2
        go_meet
        case rel => exact ⟨_, (!t903), (by first | rfl | (simp; done) | (simp [*]; done)), H', ⟨by first | omega | exact Nat.le_refl _⟩, ⟨by (with_reducible repeat (first | apply Kd.R_alloc | apply Kd.R_drewN | apply Kd.R_drew)); exact Kd.R_mono aj.out (fun _ hk => hk.1)⟩, ⟨by (with_reducible repeat (first | apply Kd.R_alloc | apply Kd.R_drewN | apply Kd.R_drew)); exact Kd.R_mono al.out (fun _ hk => hk.1)⟩, ⟨by (with_reducible repeat (first | apply Kd.R_alloc | apply Kd.R_drewN | apply Kd.R_drew)); exact Kd.R_mono aq.out (fun _ hk => trivial)⟩, ⟨by have X_ := am.out; exact TR⟩, ⟨by have X_ := an.out; exact TR⟩, ⟨by have X_ := aA.out; exact TR⟩, ⟨TK⟩, ⟨TK⟩, ⟨TK⟩, ⟨TK⟩, ⟨TB⟩⟩
       ·rw [if_neg c50] at H
        have bx : (bq == bo) = false := beq_eq_false_iff_ne.mpr c50
        have bt : (bq != bo) = true := bne_iff_ne.mpr c50
        exact absurd H (by simp)
      ·rw [if_neg c47] at H
       have bv : (bm == bp) = false := beq_eq_false_iff_ne.mpr c47
       have bG : (bm != bp) = true := bne_iff_ne.mpr c47
       exact absurd H (by simp)
     ·rw [if_neg c44] at H
      have bC : (bi == bn) = false := beq_eq_false_iff_ne.mpr c44
      have bu : (bi != bn) = true := bne_iff_ne.mpr c44
      exact absurd H (by simp)
    ·rw [if_neg c41] at H
     have bz : (bb == be) = false := beq_eq_false_iff_ne.mpr c41
     have bD : (bb != be) = true := bne_iff_ne.mpr c41
     exact absurd H (by simp)
   ·rw [if_neg c38] at H
    have aY : (bg == bh) = false := beq_eq_false_iff_ne.mpr c38
    have bB : (bg != bh) = true := bne_iff_ne.mpr c38
    (first | rw [aY] | (simp only [i64_w, i32_w]; rw [aY]) | skip)
    exact absurd H (by simp)
  case rest =>
   clear cj
   try clear c2
   try clear p2
   try clear c3
   try clear c4
   try clear c5
   try clear c20
   try clear c32
   try clear c33
   try clear c34
   try clear c35
   try clear c36
   try clear c38
   try clear aY
   try clear bB
   try clear c41
   try clear bz
   try clear bD
   try clear c44
   try clear bC
   try clear bu
   try clear c47
   try clear bv
   try clear bG
   try clear c50
   try clear bx
   try clear bt
   obtain ⟨kq, bH, rfl, HA, HJ9, aB, aH, aF, ad, ah, ag, aa, ae, ab, ac, HB⟩ := hcut
   cases kq with
   | zero => exact absurd HA.out (by simp [laws_FnScans.j0])
   | succ kj9 =>
    have H := HA.out
    clear HA
    simp only [laws_FnScans.j0] at H
    replace H := ifM H
    obtain ⟨c71, H⟩ := H
    replace c71 := Bool.eq_false_iff.mpr c71
    subst c71
    have H' := aM H
    clear H
    go_wp2
    go_loopg [16] kj9 (fun kq v16 w' => ∃ (af : Int), v16 = .int .i64 af ∧ Aside0 (laws_FnScans.l0 kq av aS a5 ar af aw ax az ai = some r) ∧ Aside0 (kq ≤ kj9) ∧ Aside0 (Kd.R (Kd.int .u8) 5 w' w.heap.size (fun k_ => some k_ ≠ ((.slice Ao12 aS.length co12) : Value).ownBlock) (.slice aV av.length co17) av) ∧ Aside0 (Kd.R (Kd.int .u8) 5 w' w.heap.size (fun k_ => some k_ ≠ ((.slice aV av.length co17) : Value).ownBlock) (.slice Ao12 aS.length co12) aS) ∧ Aside0 (Kd.R (Kd.int .i64) 3 w' w.heap.size (fun _ => True) v860 ar) ∧ Aside0 (Kd.R k48 48 w' w.heap.size (fun k_ => some k_ ≠ ((.slice Ao28 au.length co28) : Value).ownBlock ∧ some k_ ≠ ((.slice Ao35 ak.length co35) : Value).ownBlock ∧ k_ ≠ gb868) (.slice Ao16 ai.length co16) ai) ∧ Aside0 (Kd.R k48 48 w' w.heap.size (fun k_ => some k_ ≠ ((.slice Ao16 ai.length co16) : Value).ownBlock ∧ some k_ ≠ ((.slice Ao35 ak.length co35) : Value).ownBlock ∧ k_ ≠ gb868) (.slice Ao28 au.length co28) au) ∧ Aside0 (Kd.R k48 48 w' w.heap.size (fun k_ => some k_ ≠ ((.slice Ao16 ai.length co16) : Value).ownBlock ∧ some k_ ≠ ((.slice Ao28 au.length co28) : Value).ownBlock ∧ k_ ≠ gb868) (.slice Ao35 ak.length co35) ak) ∧ Aside0 (w'.heap[gb858]? = some (.cells #[.int .i64 aw, .int .i64 ax, .int .i64 az, (.slice Ao16 ai.length co16)] 28 (0, 0))) ∧ Aside0 (w'.heap[gb868]? = some (.cells #[.int .i64 aN, .int .i64 aQ] 48 (0, 0))) ∧ Aside0 (w'.heap[gb878]? = some (.cells #[.int .i64 aJ, .int .i64 aK, .int .i64 aL, (.slice Ao28 au.length co28)] 28 (0, 0))) ∧ Aside0 (w'.heap[gb889]? = some (.cells #[.int .i64 aD, .int .i64 aE, .int .i64 aG, (.slice Ao35 ak.length co35)] 28 (0, 0))) ∧ Aside0 (Below w.heap.size w w'))
    case atStart => exact ⟨(0), (by first | rfl | (simp; done) | (simp [*]; done)), H', ⟨Nat.le_refl _⟩, ⟨by have X_ := aB.out; exact TR⟩, ⟨by have X_ := aH.out; exact TR⟩, ⟨by have X_ := aF.out; exact TR⟩, ⟨by have X_ := ad.out; exact TR⟩, ⟨by have X_ := ah.out; exact TR⟩, ⟨by have X_ := ag.out; exact TR⟩, ⟨TK⟩, ⟨TK⟩, ⟨TK⟩, ⟨TK⟩, ⟨TB⟩⟩
    case round =>
     clear H'
     try clear c2
     try clear p2
     try clear c3
     try clear c4
     try clear c5
     try clear c7
     try clear c20
     try clear c32
     try clear c33
     try clear c34
     try clear c35
     try clear c36
     try clear c38
     try clear aY
     try clear bB
     try clear c41
     try clear bz
     try clear bD
     try clear c44
     try clear bC
     try clear bu
     try clear c47
     try clear bv
     try clear bG
     try clear c50
     try clear bx
     try clear bt
     try clear c71
     try clear p2
     obtain ⟨af, rfl, HA, HK2, aB, aH, aF, ad, ah, ag, aa, ae, ab, ac, HB⟩ := hrel
     cases gk with
     | zero => exact absurd HA.out (by simp [laws_FnScans.l0])
     | succ k2 =>
      have H := HA.out
      clear HA
      simp only [laws_FnScans.l0] at H
      by_cases c72 : af < (ar.length : Int)
      ·rw [if_pos c72] at H
       have cA : decide (af < (ar.length : Int)) = true := decide_eq_true c72
       clear c72
       replace H := bE H
       obtain ⟨⟨aO, t905⟩, A73, H⟩ := H
       dsimp only at H
       have H' := aM H
       clear H
       obtain ⟨b5, cq, eo74⟩ := Kd.R_slice aF.out
       subst eo74
       go_wp2_with (first | ((with_reducible refine gate_callee (f := 13) rfl ?_); refine gL (some 116) Try.func13 #[.slice Ao12 aS.length co12, .int .i64 a5, .int .i64 af] ?_; (with_reducible refine (impl_BlockAt.calls _ _ aS a5 af aO t905 _ ?side1 ?side2 A73.out).mono ?_); (case side1 => have X_ := (Kd.R_reads' aH.out).2.2; exact TC); (case side2 => exact (Kd.R_reads' aH.out).2.1); rintro e w75 ⟨ch, rfl, ho0, hb⟩; refine ⟨_, rfl, ?_⟩; have HO907 := aM (Kd.R_lower (Kd.R_new' (Kd.R_new' ho0 (Kd.R_lt (by have X_ := aB.out; exact TR))) (Kd.R_lt (by have X_ := aH.out; exact TR))) (below_size TB)); replace aB := aM (Kd.R_elder' (by have X_ := aB.out; exact TR) (Kd.R_base ho0) hb); replace aH := aM (Kd.R_elder' (by have X_ := aH.out; exact TR) (Kd.R_base ho0) hb); replace aF := aM (Kd.R_below (by have X_ := aF.out; exact TR) hb); replace ad := aM (Kd.R_below (by have X_ := ad.out; exact TR) hb); replace ah := aM (Kd.R_below (by have X_ := ah.out; exact TR) hb); replace ag := aM (Kd.R_below (by have X_ := ag.out; exact TR) hb); replace aa := aM (blk_below (g := gb858) (o := .cells #[.int .i64 aw, .int .i64 ax, .int .i64 az, .slice Ao16 ai.length co16] 28 (0, 0)) TK hb); replace ae := aM (blk_below (g := gb868) (o := .cells #[.int .i64 aN, .int .i64 aQ] 48 (0, 0)) TK hb); replace ab := aM (blk_below (g := gb878) (o := .cells #[.int .i64 aJ, .int .i64 aK, .int .i64 aL, .slice Ao28 au.length co28] 28 (0, 0)) TK hb); replace ac := aM (blk_below (g := gb889) (o := .cells #[.int .i64 aD, .int .i64 aE, .int .i64 aG, .slice Ao35 ak.length co35] 28 (0, 0)) TK hb); replace HB := aM (below_step TB hb); clear ho0 hb))
       go_loopg [19] k2 (fun kq v19 w' => ∃ (aP : Int), v19 = .int .i64 aP ∧ Aside0 (laws_FnScans.l1 kq av aS a5 ar af aO aP aw ax az ai = some r) ∧ Aside0 (kq ≤ k2) ∧ Aside0 (Kd.R (Kd.int .u8) 5 w' w.heap.size (fun k_ => some k_ ≠ ((.slice Ao12 aS.length co12) : Value).ownBlock ∧ some k_ ≠ (ch : Value).ownBlock) (.slice aV av.length co17) av) ∧ Aside0 (Kd.R (Kd.int .u8) 5 w' w.heap.size (fun k_ => some k_ ≠ ((.slice aV av.length co17) : Value).ownBlock ∧ some k_ ≠ (ch : Value).ownBlock) (.slice Ao12 aS.length co12) aS) ∧ Aside0 (Kd.R (Kd.int .i64) 3 w' w.heap.size (fun _ => True) (.slice b5 ar.length cq) ar) ∧ Aside0 (Kd.R (Kd.int .u8) 5 w' w.heap.size (fun k_ => some k_ ≠ ((.slice aV av.length co17) : Value).ownBlock ∧ some k_ ≠ ((.slice Ao12 aS.length co12) : Value).ownBlock) ch aO) ∧ Aside0 (Kd.R k48 48 w' w.heap.size (fun k_ => some k_ ≠ ((.slice Ao28 au.length co28) : Value).ownBlock ∧ some k_ ≠ ((.slice Ao35 ak.length co35) : Value).ownBlock ∧ k_ ≠ gb868) (.slice Ao16 ai.length co16) ai) ∧ Aside0 (Kd.R k48 48 w' w.heap.size (fun k_ => some k_ ≠ ((.slice Ao16 ai.length co16) : Value).ownBlock ∧ some k_ ≠ ((.slice Ao35 ak.length co35) : Value).ownBlock ∧ k_ ≠ gb868) (.slice Ao28 au.length co28) au) ∧ Aside0 (Kd.R k48 48 w' w.heap.size (fun k_ => some k_ ≠ ((.slice Ao16 ai.length co16) : Value).ownBlock ∧ some k_ ≠ ((.slice Ao28 au.length co28) : Value).ownBlock ∧ k_ ≠ gb868) (.slice Ao35 ak.length co35) ak) ∧ Aside0 (w'.heap[gb858]? = some (.cells #[.int .i64 aw, .int .i64 ax, .int .i64 az, (.slice Ao16 ai.length co16)] 28 (0, 0))) ∧ Aside0 (w'.heap[gb868]? = some (.cells #[.int .i64 aN, .int .i64 aQ] 48 (0, 0))) ∧ Aside0 (w'.heap[gb878]? = some (.cells #[.int .i64 aJ, .int .i64 aK, .int .i64 aL, (.slice Ao28 au.length co28)] 28 (0, 0))) ∧ Aside0 (w'.heap[gb889]? = some (.cells #[.int .i64 aD, .int .i64 aE, .int .i64 aG, (.slice Ao35 ak.length co35)] 28 (0, 0))) ∧ Aside0 (Below w.heap.size w w'))
       case atStart => exact ⟨(0), (by first | rfl | (simp; done) | (simp [*]; done)), H', ⟨Nat.le_refl _⟩, ⟨by have X_ := aB.out; exact TR⟩, ⟨by have X_ := aH.out; exact TR⟩, ⟨by have X_ := aF.out; exact TR⟩, ⟨by (with_reducible repeat (first | apply Kd.R_alloc | apply Kd.R_drewN | apply Kd.R_drew)); exact Kd.R_mono HO907.out (fun _ hk => ⟨hk.1.2, hk.2⟩)⟩, ⟨by have X_ := ad.out; exact TR⟩, ⟨by have X_ := ah.out; exact TR⟩, ⟨by have X_ := ag.out; exact TR⟩, ⟨TK⟩, ⟨TK⟩, ⟨TK⟩, ⟨TK⟩, ⟨TB⟩⟩
       case round =>
        clear H'
        try clear c1
        try clear c2
        try clear p2
        try clear c3
        try clear c4
        try clear c5
        try clear c7
        try clear c13
        try clear c20
        try clear c32
        try clear c33
        try clear c34
        try clear c35
        try clear c36
        try clear c38
        try clear aY
        try clear bB
        try clear c41
        try clear bz
        try clear bD
        try clear c44
        try clear bC
        try clear bu
        try clear c47
        try clear bv
        try clear bG
        try clear c50
        try clear bx
        try clear bt
        try clear c71
        try clear c72
        try clear cA
        try clear p2
        obtain ⟨aP, rfl, HA, HK3, aB, aH, aF, aT, ad, ah, ag, aa, ae, ab, ac, HB⟩ := hrel
        cases gk with
        | zero => exact absurd HA.out (by simp [laws_FnScans.l1])
        | succ k3 =>
         have H := HA.out
         clear HA
         simp only [laws_FnScans.l1] at H
         by_cases c76 : (wrap64 (aP + (aO.length : Int))) ≤ (av.length : Int)
         ·rw [if_pos c76] at H
          have c76b0 : decide ((wrap64 (aP + (aO.length : Int))) ≤ (av.length : Int)) = true := decide_eq_true c76
          clear c76
          replace H := ifN H
          obtain ⟨c77, H⟩ := H
          have c77b0 := eq_true c77
          have c77b1 : decide (0 ≤ aP) = true := decide_eq_true c77
          clear c77
          replace H := ifN H
          obtain ⟨c78, H⟩ := H
          have c78b0 := eq_true c78
          have c78b1 : decide (aP ≤ (wrap64 (aP + (aO.length : Int)))) = true := decide_eq_true c78
          have c79b0 := eq_true (DT : (wrap64 (aP + (aO.length : Int))) ≤ (av.length : Int))
          obtain ⟨a4, b0⟩ : ∃ y_ : List Int, y_ = ((av.take ((wrap64 (aP + (aO.length : Int))) : Int).toNat).drop (aP : Int).toNat) := ⟨_, rfl⟩
          rw [← b0] at H
          have cu := aM b0
          clear b0
          replace H := bE H
          obtain ⟨t912, A80, H⟩ := H
          obtain ⟨Ao82, co82, eo82⟩ := Kd.R_slice aT.out
          subst eo82
          have q83 : ((wrap64 (aP + (aO.length : Int))) : Int) ≤ ((av.length : Int) : Int) := DT
          obtain ⟨i083, ct, _, cx, _⟩ := info_parts info5
          have a6 : av.length ≤ co17 := (Kd.R_reads' aB.out).2.1
          have hC83 : Kd.C (Kd.int .u8) _ aV av.length av := (Kd.R_reads' aB.out).2.2
          have ql83 : (aP : Int) ≤ ((wrap64 (aP + (aO.length : Int))) : Int) := DT
          have q083 : (0 : Int) ≤ (aP : Int) := DT
          have cC := cut_mid (P := Try.prog) 22 5 .i64 .i64 Try.underlying22 ct 1 cx aV av.length co17 aP (wrap64 (aP + (aO.length : Int))) q083 ql83 q83 a6
          have bM := Kd.C_mid (lo := (aP : Int).toNat) (hi := ((wrap64 (aP + (aO.length : Int))) : Int).toNat) (c := co17) hC83 (by omega) (by omega) a6
          obtain ⟨A83, b1⟩ : ∃ A1, A1 = (if co17 = (aP : Int).toNat then aV else (aV : Option Addr).map (·.add ((aP : Int).toNat * 1))) := ⟨_, rfl⟩
          obtain ⟨c83, cl⟩ : ∃ c1, c1 = co17 - (aP : Int).toNat := ⟨_, rfl⟩
          have bX : a4.length = ((wrap64 (aP + (aO.length : Int))) : Int).toNat - (aP : Int).toNat := (by rw [cu.out, List.length_drop, List.length_take] <;> omega)
          rw [show ((av).take ((wrap64 (aP + (aO.length : Int))) : Int).toNat).drop (aP : Int).toNat = a4 from cu.out.symm] at bM
          replace bM : Kd.C (Kd.int .u8) _ A83 a4.length a4 := (by rw [b1]; exact bM)
          rw [← bX, ← b1, ← cl] at cC
          have bA := aM bM
          have cw := aM (show a4.length ≤ c83 from by rw [bX, cl]; exact Nat.sub_le_sub_right (Nat.le_trans (by omega) a6) _)
          clear bM hC83 a6 ct cx cl
          have KY83 := aM bX
          have KA83 := aM b1
          clear bX b1
          have KL83 := aM (show ((wrap64 (aP + (aO.length : Int))) : Int).toNat ≤ av.length from by omega)
          have KM83 := aM (show (aP : Int).toNat ≤ ((wrap64 (aP + (aO.length : Int))) : Int).toNat from by omega)
          replace q83 := eq_true q83
          go_wp2_with (first | ((with_reducible refine gate_callee (f := 17) rfl ?_); (with_reducible refine gate_dst (N := 136) rfl ?_); generalize hG_ : wpList _ _ _ _ _ _ = G_))
          subst hG_
          by_cases c84 : t912 = true
          ·subst c84
           replace H := ifT H
           replace H := ifN H
           obtain ⟨c85, H⟩ := H
           have c85b0 : decide (0 ≤ af) = true := decide_eq_true c85
           clear c85
           replace H := ifN H
           obtain ⟨c86, H⟩ := H
           have c86b0 : decide (af < (ar.length : Int)) = true := decide_eq_true c86
           clear c86
           replace H := ifM H
           obtain ⟨c87, H⟩ := H
           have c87b0 : decide ((rd ar af) < 0) = false := decide_eq_false c87
           clear c87
           replace H := ifM H
           obtain ⟨c88, H⟩ := H
           have c88b0 : decide (aP < (rd ar af)) = false := decide_eq_false c88
           clear c88
           have H' := aM H
           clear H
           go_wp2_with (first | ((with_reducible refine gate_callee (f := 17) rfl ?_); refine gL (some 136) Try.func17 #[.slice A83 a4.length c83, .slice Ao82 aO.length co82] ?_; (with_reducible refine (laws_same.calls k3 _ _ a4 _ _ aO true _ ?side1 ?side2 ?side3 ?side4 A80.out).mono ?_); (case side1 => repeat (first | exact (by repeat (first | (with_reducible exact bA.out) | (with_reducible refine Kd.C_alloc ?_ _) | (with_reducible refine Kd.C_drewN ?_ _) | (with_reducible refine Kd.C_drew ?_) | exact bA.out)) | (with_reducible refine Kd.C_alloc ?_ _) | (with_reducible refine Kd.C_drewN ?_ _) | (with_reducible refine Kd.C_drew ?_))); (case side2 => exact cw.out); (case side3 => have X_ := (Kd.R_reads' aT.out).2.2; exact TC); (case side4 => exact (Kd.R_reads' aT.out).2.1); rintro e w' ⟨rfl, ⟨nd, rfl⟩⟩; refine ⟨_, rfl, ?_⟩; have p913 : 0 ≤ (af : Int) := DT; have q913 : af < (ar.length : Int) := DT; obtain ⟨ad913, e913, hx913_0⟩ := Kd.at_int (Kd.R_reads' aF.out).2.2 af p913 q913; cases e913; replace p913 := eq_true p913; replace q913 := eq_true q913; have p914 : 0 ≤ (af : Int) := DT; have q914 : af < (ar.length : Int) := DT; obtain ⟨ad914, e914, hx914_0⟩ := Kd.at_int (Kd.R_reads' aF.out).2.2 af p914 q914; obtain rfl : ad913 = ad914 := (by injection e914); replace p914 := eq_true p914; replace q914 := eq_true q914))
           go_roundg k3
           case measure => have := HJ9.out; have := HK2.out; have := HK3.out; omega
           case rel => exact ⟨(wrap64 (aP + 1)), (by first | rfl | (simp; done) | (simp [*]; done)), H', ⟨by have := HJ9.out; have := HK2.out; have := HK3.out; omega⟩, ⟨by have X_ := aB.out; exact TR⟩, ⟨by have X_ := aH.out; exact TR⟩, ⟨by have X_ := aF.out; exact TR⟩, ⟨by have X_ := aT.out; exact TR⟩, ⟨by have X_ := ad.out; exact TR⟩, ⟨by have X_ := ah.out; exact TR⟩, ⟨by have X_ := ag.out; exact TR⟩, ⟨TK⟩, ⟨TK⟩, ⟨TK⟩, ⟨TK⟩, ⟨TB⟩⟩
          ·replace c84 := Bool.eq_false_iff.mpr c84
           subst c84
           replace H := ifF H
           have H' := aM H
           clear H
           go_wp2_with (first | ((with_reducible refine gate_callee (f := 17) rfl ?_); refine gL (some 136) Try.func17 #[.slice A83 a4.length c83, .slice Ao82 aO.length co82] ?_; (with_reducible refine (laws_same.calls k3 _ _ a4 _ _ aO false _ ?side1 ?side2 ?side3 ?side4 A80.out).mono ?_); (case side1 => repeat (first | exact (by repeat (first | (with_reducible exact bA.out) | (with_reducible refine Kd.C_alloc ?_ _) | (with_reducible refine Kd.C_drewN ?_ _) | (with_reducible refine Kd.C_drew ?_) | exact bA.out)) | (with_reducible refine Kd.C_alloc ?_ _) | (with_reducible refine Kd.C_drewN ?_ _) | (with_reducible refine Kd.C_drew ?_))); (case side2 => exact cw.out); (case side3 => have X_ := (Kd.R_reads' aT.out).2.2; exact TC); (case side4 => exact (Kd.R_reads' aT.out).2.1); rintro e w' ⟨rfl, ⟨nd, rfl⟩⟩; refine ⟨_, rfl, ?_⟩))
           go_roundg k3
           case measure => have := HJ9.out; have := HK2.out; have := HK3.out; omega
           case rel => exact ⟨(wrap64 (aP + 1)), (by first | rfl | (simp; done) | (simp [*]; done)), H', ⟨by have := HJ9.out; have := HK2.out; have := HK3.out; omega⟩, ⟨by have X_ := aB.out; exact TR⟩, ⟨by have X_ := aH.out; exact TR⟩, ⟨by have X_ := aF.out; exact TR⟩, ⟨by have X_ := aT.out; exact TR⟩, ⟨by have X_ := ad.out; exact TR⟩, ⟨by have X_ := ah.out; exact TR⟩, ⟨by have X_ := ag.out; exact TR⟩, ⟨TK⟩, ⟨TK⟩, ⟨TK⟩, ⟨TK⟩, ⟨TB⟩⟩
         ·rw [if_neg c76] at H
          have c76b0 : decide ((wrap64 (aP + (aO.length : Int))) ≤ (av.length : Int)) = false := decide_eq_false c76
          clear c76
          replace H := ifN H
          obtain ⟨c89, H⟩ := H
          have c89b0 : decide (0 ≤ af) = true := decide_eq_true c89
          clear c89
          replace H := ifN H
          obtain ⟨c90, H⟩ := H
          have c90b0 : decide (af < (ar.length : Int)) = true := decide_eq_true c90
          clear c90
          by_cases c91 : (rd ar af) ≥ 0
          ·rw [if_pos c91] at H
           have cy : decide (0 ≤ (rd ar af)) = true := decide_eq_true c91
           clear c91
           replace H := ifN H
           obtain ⟨c92, H⟩ := H
           have c92b0 := eq_true c92
           have c92b1 : decide (0 ≤ (rd ar af)) = true := decide_eq_true c92
           clear c92
           replace H := ifN H
           obtain ⟨c93, H⟩ := H
           have c93b0 := eq_true c93
           have c93b1 : decide ((rd ar af) ≤ (wrap64 ((rd ar af) + (aO.length : Int)))) = true := decide_eq_true c93
           replace H := ifN H
           obtain ⟨c94, H⟩ := H
           have c94b0 := eq_true c94
           have c94b1 : decide ((wrap64 ((rd ar af) + (aO.length : Int))) ≤ (av.length : Int)) = true := decide_eq_true c94
           obtain ⟨a3, bV⟩ : ∃ y_ : List Int, y_ = ((av.take ((wrap64 ((rd ar af) + (aO.length : Int))) : Int).toNat).drop ((rd ar af) : Int).toNat) := ⟨_, rfl⟩
           rw [← bV] at H
           have cv := aM bV
           clear bV
           replace H := bE H
           obtain ⟨t922, A95, H⟩ := H
           by_cases c96 : t922 = true
           ·subst c96
            replace H := ifT H
            replace H := bE H
            obtain ⟨cf, A97, H⟩ := H
            replace H := bE H
            obtain ⟨bL, A98, H⟩ := H
            replace H := ifM H
            obtain ⟨c99, H⟩ := H
            have c99b0 : (bL != (decide ((rd ar af) ≥ 0))) = false := by simpa using c99
            (try (have c99b3 : bL = true := (bne_eq_false_iff_eq.1 c99b0).trans c92b1))
            (try (have c99b1 : decide (bL = (decide ((rd ar af) ≥ 0))) = true := by simpa using c99))
            (try (have c99b2 : (bL == (decide ((rd ar af) ≥ 0))) = true := by simpa using c99))
            clear c99
            have H' := aM H
            clear H
            obtain ⟨bw, br, eo100⟩ := Kd.R_slice aT.out
            subst eo100
            try go_wp2
            (try (rw [drewN_self wr]; generalize hq_ : World.drewN wr _ = wr; have n0_ : Aside0 (Kd.R (Kd.int .u8) 5 wr w.heap.size (fun k_ => (some k_ ≠ (.slice aV av.length co17 : Value).ownBlock ∧ some k_ ≠ (.slice Ao12 aS.length co12 : Value).ownBlock)) (.slice bw aO.length br) aO) := ⟨by rw [← hq_]; exact (by have X_ := aT.out; exact TR)⟩; have n1_ : Aside0 (Kd.R (Kd.int .u8) 5 wr w.heap.size (fun k_ => (some k_ ≠ (.slice Ao12 aS.length co12 : Value).ownBlock ∧ some k_ ≠ (.slice bw aO.length br : Value).ownBlock)) (.slice aV av.length co17) av) := ⟨by rw [← hq_]; exact (by have X_ := aB.out; exact TR)⟩; have n2_ : Aside0 (Kd.R (Kd.int .u8) 5 wr w.heap.size (fun k_ => (some k_ ≠ (.slice aV av.length co17 : Value).ownBlock ∧ some k_ ≠ (.slice bw aO.length br : Value).ownBlock)) (.slice Ao12 aS.length co12) aS) := ⟨by rw [← hq_]; exact (by have X_ := aH.out; exact TR)⟩; have n3_ : Aside0 (Kd.R (Kd.int .i64) 3 wr w.heap.size (fun _ => True) (.slice b5 ar.length cq) ar) := ⟨by rw [← hq_]; exact (by have X_ := aF.out; exact TR)⟩; have n4_ : Aside0 (Kd.R k48 48 wr w.heap.size (fun k_ => (some k_ ≠ (.slice Ao28 au.length co28 : Value).ownBlock ∧ (some k_ ≠ (.slice Ao35 ak.length co35 : Value).ownBlock ∧ k_ ≠ gb868))) (.slice Ao16 ai.length co16) ai) := ⟨by rw [← hq_]; exact (by have X_ := ad.out; exact TR)⟩; have n5_ : Aside0 (Kd.R k48 48 wr w.heap.size (fun k_ => (some k_ ≠ (.slice Ao16 ai.length co16 : Value).ownBlock ∧ (some k_ ≠ (.slice Ao35 ak.length co35 : Value).ownBlock ∧ k_ ≠ gb868))) (.slice Ao28 au.length co28) au) := ⟨by rw [← hq_]; exact (by have X_ := ah.out; exact TR)⟩; have n6_ : Aside0 (Kd.R k48 48 wr w.heap.size (fun k_ => (some k_ ≠ (.slice Ao16 ai.length co16 : Value).ownBlock ∧ (some k_ ≠ (.slice Ao28 au.length co28 : Value).ownBlock ∧ k_ ≠ gb868))) (.slice Ao35 ak.length co35) ak) := ⟨by rw [← hq_]; exact (by have X_ := ag.out; exact TR)⟩; have n7_ : Aside0 (wr.heap[gb858]? = some (.cells #[.int .i64 aw, .int .i64 ax, .int .i64 az, .slice Ao16 ai.length co16] 28 (0, 0))) := ⟨by rw [← hq_]; exact TK⟩; have n8_ : Aside0 (wr.heap[gb868]? = some (.cells #[.int .i64 aN, .int .i64 aQ] 48 (0, 0))) := ⟨by rw [← hq_]; exact TK⟩; have n9_ : Aside0 (wr.heap[gb878]? = some (.cells #[.int .i64 aJ, .int .i64 aK, .int .i64 aL, .slice Ao28 au.length co28] 28 (0, 0))) := ⟨by rw [← hq_]; exact TK⟩; have ay : Aside0 (wr.heap[gb889]? = some (.cells #[.int .i64 aD, .int .i64 aE, .int .i64 aG, .slice Ao35 ak.length co35] 28 (0, 0))) := ⟨by rw [← hq_]; exact TK⟩; have aI : Aside0 (Below w.heap.size w wr) := ⟨by rw [← hq_]; exact TB⟩; clear aT aB aH aF ad ah ag aa ae ab ac HB hq_; have aT := n0_; have aB := n1_; have aH := n2_; have aF := n3_; have ad := n4_; have ah := n5_; have ag := n6_; have aa := n7_; have ae := n8_; have ab := n9_; have ac := ay; have HB := aI; clear n0_ n1_ n2_ n3_ n4_ n5_ n6_ n7_ n8_ n9_ ay aI))
            replace aB := aM (Kd.R_drew aB.out)
            replace aH := aM (Kd.R_drew aH.out)
            replace aF := aM (Kd.R_drew aF.out)
            replace aT := aM (Kd.R_drew aT.out)
            replace ad := aM (Kd.R_drew ad.out)
            replace ah := aM (Kd.R_drew ah.out)
            replace ag := aM (Kd.R_drew ag.out)
            replace aa := aM (blk_drew aa.out)
            replace ae := aM (blk_drew ae.out)
            replace ab := aM (blk_drew ab.out)
            replace ac := aM (blk_drew ac.out)
            replace HB := aM (below_drew1 HB.out)
            have a8 : 0 ≤ (af : Int) := DT
            have a7 : af < (ar.length : Int) := DT
            obtain ⟨aX, b6, aZ⟩ := Kd.at_int (Kd.R_reads' aF.out).2.2 af a8 a7
            cases b6
            replace a8 := eq_true a8
            replace a7 := eq_true a7
            have ck : 0 ≤ (af : Int) := DT
            have cg : af < (ar.length : Int) := DT
            obtain ⟨ad916, e916, bT⟩ := Kd.at_int (Kd.R_reads' aF.out).2.2 af ck cg
            obtain rfl : aX = ad916 := (by injection e916)
            replace ck := eq_true ck
            replace cg := eq_true cg
            have cb : 0 ≤ (af : Int) := DT
            have ci : af < (ar.length : Int) := DT
            obtain ⟨ad917, e917, bR⟩ := Kd.at_int (Kd.R_reads' aF.out).2.2 af cb ci
            obtain rfl : aX = ad917 := (by injection e917)
            replace cb := eq_true cb
            replace ci := eq_true ci
            have cc : ((wrap64 ((rd ar af) + (aO.length : Int))) : Int) ≤ ((av.length : Int) : Int) := DT
            obtain ⟨i0102, b4, _, b3, _⟩ := info_parts info5
            have a2 : av.length ≤ co17 := (Kd.R_reads' aB.out).2.1
            have cz : Kd.C (Kd.int .u8) _ aV av.length av := (Kd.R_reads' aB.out).2.2
            have ql102 : ((rd ar af) : Int) ≤ ((wrap64 ((rd ar af) + (aO.length : Int))) : Int) := DT
            have q0102 : (0 : Int) ≤ ((rd ar af) : Int) := DT
            have cB := cut_mid (P := Try.prog) 22 5 .i64 .i64 Try.underlying22 b4 1 b3 aV av.length co17 (rd ar af) (wrap64 ((rd ar af) + (aO.length : Int))) q0102 ql102 cc a2
            have ba := Kd.C_mid (lo := ((rd ar af) : Int).toNat) (hi := ((wrap64 ((rd ar af) + (aO.length : Int))) : Int).toNat) (c := co17) cz (by omega) (by omega) a2
            obtain ⟨b8, bF⟩ : ∃ A1, A1 = (if co17 = ((rd ar af) : Int).toNat then aV else (aV : Option Addr).map (·.add (((rd ar af) : Int).toNat * 1))) := ⟨_, rfl⟩
            obtain ⟨c102, b2⟩ : ∃ c1, c1 = co17 - ((rd ar af) : Int).toNat := ⟨_, rfl⟩
            have bs : a3.length = ((wrap64 ((rd ar af) + (aO.length : Int))) : Int).toNat - ((rd ar af) : Int).toNat := (by rw [cv.out, List.length_drop, List.length_take] <;> omega)
            rw [show ((av).take ((wrap64 ((rd ar af) + (aO.length : Int))) : Int).toNat).drop ((rd ar af) : Int).toNat = a3 from cv.out.symm] at ba
            replace ba : Kd.C (Kd.int .u8) _ b8 a3.length a3 := (by rw [bF]; exact ba)
            rw [← bs, ← bF, ← b2] at cB
            have a1 := aM ba
            have HC921 := aM (show a3.length ≤ c102 from by rw [bs, b2]; exact Nat.sub_le_sub_right (Nat.le_trans (by omega) a2) _)
            clear ba cz a2 b4 b3 b2
            have KY102 := aM bs
            have KA102 := aM bF
            clear bs bF
            have KL102 := aM (show ((wrap64 ((rd ar af) + (aO.length : Int))) : Int).toNat ≤ av.length from by omega)
            have KM102 := aM (show ((rd ar af) : Int).toNat ≤ ((wrap64 ((rd ar af) + (aO.length : Int))) : Int).toNat from by omega)
            replace cc := eq_true cc
            have cr : 0 ≤ (af : Int) := DT
            have co : af < (ar.length : Int) := DT
            obtain ⟨ad925, e925, bQ⟩ := Kd.at_int (Kd.R_reads' aF.out).2.2 af cr co
            obtain rfl : aX = ad925 := (by injection e925)
            replace cr := eq_true cr
            replace co := eq_true co
            refine start_ (n := 36) (S := fun w' => w'.cell? ⟨gb858, 0, none⟩ = some (.int .i64 aw) ∧ w'.cell? ⟨gb858, 1, none⟩ = some (.int .i64 ax) ∧ w'.cell? ⟨gb858, 2, none⟩ = some (.int .i64 az) ∧ w'.cell? ⟨gb858, 3, none⟩ = some (.slice Ao16 ai.length co16) ∧ w'.cell? (aX.add (af).toNat) = some (.int .i64 (rd ar af)) ∧ w'.cell? (aX.add (af).toNat) = some (.int .i64 (rd ar af)) ∧ w'.cell? (aX.add (af).toNat) = some (.int .i64 (rd ar af)) ∧ w'.cell? (aX.add (af).toNat) = some (.int .i64 (rd ar af))) (ds := []) (Array.replicate 36 false) (by kernel_rfl) rfl rfl ⟨(blk_cell aa.out 0).trans rfl, (blk_cell aa.out 1).trans rfl, (blk_cell aa.out 2).trans rfl, (blk_cell aa.out 3).trans rfl, aZ, bT, bR, bQ⟩ (fun hHeld => ?_); refine with_tabW laws_FnScans.tab20 laws_FnScans.bits20 (fun HT_ HW_ => ?_)
            generalize wr.drew = w101 at aB aH aF aT ad ah ag aa ae ab ac HB a1 aZ bT bR bQ hHeld ⊢
            refine pP 0 (some 152) ?_
            refine pP 1 (some 153) ?_
            refine pP 2 (some 154) ?_
            refine pT 3 (some 155) ?_
            refine pP 4 (some 156) ?_
            refine pP 5 (some 157) ?_
            refine pP 6 (some 158) ?_
            refine pP 7 (some 159) ?_
            refine pP 8 (some 160) ?_
            refine pP 9 (some 161) ?_
            refine pP 11 (some 163) ?_
            refine pP 12 (some 164) ?_
            refine pP 13 (some 165) ?_
            refine pP 15 (some 167) ?_
            refine pP 16 (some 168) ?_
            refine pP 19 (some 171) ?_
            refine pT 10 (some 162) ?_
            refine pT 14 (some 166) ?_
            refine pP 17 (some 169) ?_
            refine pP 18 (some 170) ?_
            refine pO 20 (some 172) (fun K hK => ?_)
            refine gG Try.func17 #[.slice b8 a3.length c102, .slice bw aO.length br] ?_
            with_reducible refine (laws_same.calls k3 _ _ a3 _ _ aO true _ ?side1 ?side2 ?side3 ?side4 A95.out).mono ?_
            (case side1 => repeat (first | exact (by repeat (first | (with_reducible exact a1.out) | (with_reducible refine Kd.C_alloc ?_ _) | (with_reducible refine Kd.C_drewN ?_ _) | (with_reducible refine Kd.C_drew ?_) | exact a1.out)) | (with_reducible refine Kd.C_alloc ?_ _) | (with_reducible refine Kd.C_drewN ?_ _) | (with_reducible refine Kd.C_drew ?_)))
            (case side2 => exact HC921.out)
            (case side3 => have X_ := (Kd.R_reads' aT.out).2.2; exact TC)
            (case side4 => exact (Kd.R_reads' aT.out).2.1)
            rintro e w' ⟨rfl, ⟨nd, rfl⟩⟩
            refine ⟨_, rfl, ?_⟩
            refine hK.out _ _ ⟨(blk_cell aa.out 0).trans rfl, (blk_cell aa.out 1).trans rfl, (blk_cell aa.out 2).trans rfl, (blk_cell aa.out 3).trans rfl, hHeld.2.2.2.2.1, hHeld.2.2.2.2.2.1, hHeld.2.2.2.2.2.2.1, hHeld.2.2.2.2.2.2.2⟩ (fun hHeld => ?_)
            clear hK K
            refine nR ?_
            refine pP 21 (some 173) ?_
            refine pP 22 (some 174) ?_
            refine pP 23 (some 175) ?_
            refine pP 24 (some 176) ?_
            refine pP 27 (some 179) ?_
            refine pP 29 (some 181) ?_
            refine pP 30 (some 182) ?_
            refine pP 31 (some 183) ?_
            refine pT 25 (some 177) ?_
            refine pT 32 (some 184) ?_
            refine pP 33 (some 185) ?_
            refine pO 26 (some 178) (fun K hK => ?_)
            refine gG Try.func29 #[.slice aV av.length co17, .agg #[.int .i64 aw, .int .i64 ax, .int .i64 az, .slice Ao16 ai.length co16]] ?_
            with_reducible refine (impl_Found.calls k3 _ _ av aw ax az _ _ ai cf _ ?side1 ?side2 ?side3 ?side4 A97.out).mono ?_
            (case side1 => have X_ := (Kd.R_reads' aB.out).2.2; exact TC)
            (case side2 => exact (Kd.R_reads' aB.out).2.1)
            (case side3 => have X_ := (Kd.R_reads' ad.out).2.2; exact TC)
            (case side4 => exact (Kd.R_reads' ad.out).2.1)
            rintro e w103 ⟨rfl, hb⟩
            have cm := (hb.cell (World.block_lt_of_cell? _ _ (hHeld.2.2.2.2.1))).trans (hHeld.2.2.2.2.1)
            have b9 := (hb.cell (World.block_lt_of_cell? _ _ (hHeld.2.2.2.2.2.1))).trans (hHeld.2.2.2.2.2.1)
            have HS6_ := (hb.cell (World.block_lt_of_cell? _ _ (hHeld.2.2.2.2.2.2.1))).trans (hHeld.2.2.2.2.2.2.1)
            have HS7_ := (hb.cell (World.block_lt_of_cell? _ _ (hHeld.2.2.2.2.2.2.2))).trans (hHeld.2.2.2.2.2.2.2)
            refine ⟨_, rfl, ?_⟩
            have n0_ := aM (Kd.R_below (by have X_ := aB.out; exact TR) hb)
            have n1_ := aM (Kd.R_below (by have X_ := aH.out; exact TR) hb)
            have n2_ := aM (Kd.R_below (by have X_ := aF.out; exact TR) hb)
            have n3_ := aM (Kd.R_below (by have X_ := aT.out; exact TR) hb)
            have n4_ := aM (Kd.R_below (by have X_ := ad.out; exact TR) hb)
            have n5_ := aM (Kd.R_below (by have X_ := ah.out; exact TR) hb)
            have n6_ := aM (Kd.R_below (by have X_ := ag.out; exact TR) hb)
            have n7_ := aM (blk_below (g := gb858) (o := .cells #[.int .i64 aw, .int .i64 ax, .int .i64 az, .slice Ao16 ai.length co16] 28 (0, 0)) TK hb)
            have n8_ := aM (blk_below (g := gb868) (o := .cells #[.int .i64 aN, .int .i64 aQ] 48 (0, 0)) TK hb)
            have n9_ := aM (blk_below (g := gb878) (o := .cells #[.int .i64 aJ, .int .i64 aK, .int .i64 aL, .slice Ao28 au.length co28] 28 (0, 0)) TK hb)
            have ay := aM (blk_below (g := gb889) (o := .cells #[.int .i64 aD, .int .i64 aE, .int .i64 aG, .slice Ao35 ak.length co35] 28 (0, 0)) TK hb)
            have aI := aM (Kd.C_below (show Kd.C (Kd.int .u8) _ b8 a3.length a3 from by repeat (first | (with_reducible exact a1.out) | (with_reducible refine Kd.C_alloc ?_ _) | (with_reducible refine Kd.C_drewN ?_ _) | (with_reducible refine Kd.C_drew ?_) | exact a1.out)) hb)
            have aR := aM (below_step TB hb)
            clear aB
            clear aH
            clear aF
            clear aT
            clear ad
            clear ah
            clear ag
            clear aa
            clear ae
            clear ab
            clear ac
            clear a1
            clear HB
            have aB := n0_
            have aH := n1_
            have aF := n2_
            have aT := n3_
            have ad := n4_
            have ah := n5_
            have ag := n6_
            have aa := n7_
            have ae := n8_
            have ab := n9_
            have ac := ay
            have a1 := aI
            have HB := aR
            clear n0_ n1_ n2_ n3_ n4_ n5_ n6_ n7_ n8_ n9_ ay aI aR
            (try clear hb)
            (try clear hb2)
            (try clear hk)
            (try clear hi)
            refine hK.out _ _ ⟨(blk_cell aa.out 0).trans rfl, (blk_cell aa.out 1).trans rfl, (blk_cell aa.out 2).trans rfl, (blk_cell aa.out 3).trans rfl, cm, b9, HS6_, HS7_⟩ (fun hHeld => ?_)
            clear hK K
            refine nR ?_
            refine pO 28 (some 180) (fun K hK => ?_)
            refine gG Try.func37 #[.int .i64 cf, .int .i64 af] ?_
            with_reducible refine (impl_InSet.calls cf af bL _ A98.out).mono ?_
            rintro e w' ⟨rfl, ⟨nd, rfl⟩⟩
            refine ⟨_, rfl, ?_⟩
            refine hK.out _ _ ⟨(blk_cell aa.out 0).trans rfl, (blk_cell aa.out 1).trans rfl, (blk_cell aa.out 2).trans rfl, (blk_cell aa.out 3).trans rfl, hHeld.2.2.2.2.1, hHeld.2.2.2.2.2.1, hHeld.2.2.2.2.2.2.1, hHeld.2.2.2.2.2.2.2⟩ (fun hHeld => ?_)
            clear hK K
            refine nR ?_
            refine pP 34 (some 186) ?_
            refine pP 35 (some 187) ?_
            refine done_ (done_of HT_.out (by kernel_rfl)) ?_
            try go_wp2
            go_roundg k3
            case measure => have := HJ9.out; have := HK2.out; have := HK3.out; omega
            case rel => exact ⟨(wrap64 (af + 1)), (by first | rfl | (simp; done) | (simp [*]; done)), H', ⟨by have := HJ9.out; have := HK2.out; have := HK3.out; omega⟩, ⟨by (with_reducible repeat (first | apply Kd.R_alloc | apply Kd.R_drewN | apply Kd.R_drew)); exact Kd.R_mono aB.out (fun _ hk => hk.1)⟩, ⟨by (with_reducible repeat (first | apply Kd.R_alloc | apply Kd.R_drewN | apply Kd.R_drew)); exact Kd.R_mono aH.out (fun _ hk => hk.1)⟩, ⟨by have X_ := aF.out; exact TR⟩, ⟨by have X_ := ad.out; exact TR⟩, ⟨by have X_ := ah.out; exact TR⟩, ⟨by have X_ := ag.out; exact TR⟩, ⟨TK⟩, ⟨TK⟩, ⟨TK⟩, ⟨TK⟩, ⟨TB⟩⟩
           ·replace c96 := Bool.eq_false_iff.mpr c96
            subst c96
            replace H := ifF H
            exact absurd H (by simp)
          ·rw [if_neg c91] at H
           have cy : decide (0 ≤ (rd ar af)) = false := decide_eq_false c91
           clear c91
           replace H := bE H
           obtain ⟨b7, A104, H⟩ := H
           replace H := bE H
           obtain ⟨bI, A105, H⟩ := H
           replace H := ifM H
           obtain ⟨bW, H⟩ := H
           have cE : (bI != (decide ((rd ar af) ≥ 0))) = false := by simpa using bW
           (try (have c106b3 : bI = false := (bne_eq_false_iff_eq.1 cE).trans cy))
           (try (have c106b1 : decide (bI = (decide ((rd ar af) ≥ 0))) = true := by simpa using bW))
           (try (have c106b2 : (bI == (decide ((rd ar af) ≥ 0))) = true := by simpa using bW))
           clear bW
           have H' := aM H
           clear H
           obtain ⟨bU, bZ, eo107⟩ := Kd.R_slice aT.out
           subst eo107
           try go_wp2
           (try (rw [drewN_self wr]; generalize hq_ : World.drewN wr _ = wr; have n0_ : Aside0 (Kd.R (Kd.int .u8) 5 wr w.heap.size (fun k_ => (some k_ ≠ (.slice aV av.length co17 : Value).ownBlock ∧ some k_ ≠ (.slice Ao12 aS.length co12 : Value).ownBlock)) (.slice bU aO.length bZ) aO) := ⟨by rw [← hq_]; exact (by have X_ := aT.out; exact TR)⟩; have n1_ : Aside0 (Kd.R (Kd.int .u8) 5 wr w.heap.size (fun k_ => (some k_ ≠ (.slice Ao12 aS.length co12 : Value).ownBlock ∧ some k_ ≠ (.slice bU aO.length bZ : Value).ownBlock)) (.slice aV av.length co17) av) := ⟨by rw [← hq_]; exact (by have X_ := aB.out; exact TR)⟩; have n2_ : Aside0 (Kd.R (Kd.int .u8) 5 wr w.heap.size (fun k_ => (some k_ ≠ (.slice aV av.length co17 : Value).ownBlock ∧ some k_ ≠ (.slice bU aO.length bZ : Value).ownBlock)) (.slice Ao12 aS.length co12) aS) := ⟨by rw [← hq_]; exact (by have X_ := aH.out; exact TR)⟩; have n3_ : Aside0 (Kd.R (Kd.int .i64) 3 wr w.heap.size (fun _ => True) (.slice b5 ar.length cq) ar) := ⟨by rw [← hq_]; exact (by have X_ := aF.out; exact TR)⟩; have n4_ : Aside0 (Kd.R k48 48 wr w.heap.size (fun k_ => (some k_ ≠ (.slice Ao28 au.length co28 : Value).ownBlock ∧ (some k_ ≠ (.slice Ao35 ak.length co35 : Value).ownBlock ∧ k_ ≠ gb868))) (.slice Ao16 ai.length co16) ai) := ⟨by rw [← hq_]; exact (by have X_ := ad.out; exact TR)⟩; have n5_ : Aside0 (Kd.R k48 48 wr w.heap.size (fun k_ => (some k_ ≠ (.slice Ao16 ai.length co16 : Value).ownBlock ∧ (some k_ ≠ (.slice Ao35 ak.length co35 : Value).ownBlock ∧ k_ ≠ gb868))) (.slice Ao28 au.length co28) au) := ⟨by rw [← hq_]; exact (by have X_ := ah.out; exact TR)⟩; have n6_ : Aside0 (Kd.R k48 48 wr w.heap.size (fun k_ => (some k_ ≠ (.slice Ao16 ai.length co16 : Value).ownBlock ∧ (some k_ ≠ (.slice Ao28 au.length co28 : Value).ownBlock ∧ k_ ≠ gb868))) (.slice Ao35 ak.length co35) ak) := ⟨by rw [← hq_]; exact (by have X_ := ag.out; exact TR)⟩; have n7_ : Aside0 (wr.heap[gb858]? = some (.cells #[.int .i64 aw, .int .i64 ax, .int .i64 az, .slice Ao16 ai.length co16] 28 (0, 0))) := ⟨by rw [← hq_]; exact TK⟩; have n8_ : Aside0 (wr.heap[gb868]? = some (.cells #[.int .i64 aN, .int .i64 aQ] 48 (0, 0))) := ⟨by rw [← hq_]; exact TK⟩; have n9_ : Aside0 (wr.heap[gb878]? = some (.cells #[.int .i64 aJ, .int .i64 aK, .int .i64 aL, .slice Ao28 au.length co28] 28 (0, 0))) := ⟨by rw [← hq_]; exact TK⟩; have ay : Aside0 (wr.heap[gb889]? = some (.cells #[.int .i64 aD, .int .i64 aE, .int .i64 aG, .slice Ao35 ak.length co35] 28 (0, 0))) := ⟨by rw [← hq_]; exact TK⟩; have aI : Aside0 (Below w.heap.size w wr) := ⟨by rw [← hq_]; exact TB⟩; clear aT aB aH aF ad ah ag aa ae ab ac HB hq_; have aT := n0_; have aB := n1_; have aH := n2_; have aF := n3_; have ad := n4_; have ah := n5_; have ag := n6_; have aa := n7_; have ae := n8_; have ab := n9_; have ac := ay; have HB := aI; clear n0_ n1_ n2_ n3_ n4_ n5_ n6_ n7_ n8_ n9_ ay aI))
           replace aB := aM (Kd.R_drew aB.out)
           replace aH := aM (Kd.R_drew aH.out)
           replace aF := aM (Kd.R_drew aF.out)
           replace aT := aM (Kd.R_drew aT.out)
           replace ad := aM (Kd.R_drew ad.out)
           replace ah := aM (Kd.R_drew ah.out)
           replace ag := aM (Kd.R_drew ag.out)
           replace aa := aM (blk_drew aa.out)
           replace ae := aM (blk_drew ae.out)
           replace ab := aM (blk_drew ab.out)
           replace ac := aM (blk_drew ac.out)
           replace HB := aM (below_drew1 HB.out)
           have a8 : 0 ≤ (af : Int) := DT
           have a7 : af < (ar.length : Int) := DT
           obtain ⟨aX, b6, aZ⟩ := Kd.at_int (Kd.R_reads' aF.out).2.2 af a8 a7
           cases b6
           replace a8 := eq_true a8
           replace a7 := eq_true a7
           have ce : 0 ≤ (af : Int) := DT
           have ca : af < (ar.length : Int) := DT
           obtain ⟨ad928, e928, bS⟩ := Kd.at_int (Kd.R_reads' aF.out).2.2 af ce ca
           obtain rfl : aX = ad928 := (by injection e928)
           replace ce := eq_true ce
           replace ca := eq_true ca
           refine start_ (n := 36) (S := fun w' => w'.cell? ⟨gb858, 0, none⟩ = some (.int .i64 aw) ∧ w'.cell? ⟨gb858, 1, none⟩ = some (.int .i64 ax) ∧ w'.cell? ⟨gb858, 2, none⟩ = some (.int .i64 az) ∧ w'.cell? ⟨gb858, 3, none⟩ = some (.slice Ao16 ai.length co16) ∧ w'.cell? (aX.add (af).toNat) = some (.int .i64 (rd ar af)) ∧ w'.cell? (aX.add (af).toNat) = some (.int .i64 (rd ar af))) (ds := []) (Array.replicate 36 false) (by kernel_rfl) rfl rfl ⟨(blk_cell aa.out 0).trans rfl, (blk_cell aa.out 1).trans rfl, (blk_cell aa.out 2).trans rfl, (blk_cell aa.out 3).trans rfl, aZ, bS⟩ (fun hHeld => ?_); refine with_tabW laws_FnScans.tab20 laws_FnScans.bits20 (fun HT_ HW_ => ?_)
           generalize wr.drew = w108 at aB aH aF aT ad ah ag aa ae ab ac HB aZ bS hHeld ⊢
           refine pP 0 (some 152) ?_
           refine pP 1 (some 153) ?_
           refine pP 2 (some 154) ?_
           refine pT 3 (some 155) ?_
           refine pP 4 (some 156) ?_
           refine pP 5 (some 157) ?_
           refine pX 6 (some 158) ?_
           refine pX 7 (some 159) ?_
           refine pX 8 (some 160) ?_
           refine pX 9 (some 161) ?_
           refine pX 10 (some 162) ?_
           refine pX 11 (some 163) ?_
           refine pX 12 (some 164) ?_
           refine pX 13 (some 165) ?_
           refine pX 14 (some 166) ?_
           refine pX 15 (some 167) ?_
           refine pX 16 (some 168) ?_
           refine pX 17 (some 169) ?_
           refine pX 18 (some 170) ?_
           refine pX 19 (some 171) ?_
           refine pX 20 (some 172) ?_
           refine pX 21 (some 173) ?_
           refine pP 22 (some 174) ?_
           refine pP 23 (some 175) ?_
           refine pP 24 (some 176) ?_
           refine pP 27 (some 179) ?_
           refine pP 29 (some 181) ?_
           refine pP 30 (some 182) ?_
           refine pP 31 (some 183) ?_
           refine pT 25 (some 177) ?_
           refine pT 32 (some 184) ?_
           refine pP 33 (some 185) ?_
           refine pO 26 (some 178) (fun K hK => ?_)
           refine gG Try.func29 #[.slice aV av.length co17, .agg #[.int .i64 aw, .int .i64 ax, .int .i64 az, .slice Ao16 ai.length co16]] ?_
           with_reducible refine (impl_Found.calls k3 _ _ av aw ax az _ _ ai b7 _ ?side1 ?side2 ?side3 ?side4 A104.out).mono ?_
           (case side1 => have X_ := (Kd.R_reads' aB.out).2.2; exact TC)
           (case side2 => exact (Kd.R_reads' aB.out).2.1)
           (case side3 => have X_ := (Kd.R_reads' ad.out).2.2; exact TC)
           (case side4 => exact (Kd.R_reads' ad.out).2.1)
           rintro e w109 ⟨rfl, hb⟩
           have cm := (hb.cell (World.block_lt_of_cell? _ _ (hHeld.2.2.2.2.1))).trans (hHeld.2.2.2.2.1)
           have b9 := (hb.cell (World.block_lt_of_cell? _ _ (hHeld.2.2.2.2.2))).trans (hHeld.2.2.2.2.2)
           refine ⟨_, rfl, ?_⟩
           have n0_ := aM (Kd.R_below (by have X_ := aB.out; exact TR) hb)
           have n1_ := aM (Kd.R_below (by have X_ := aH.out; exact TR) hb)
           have n2_ := aM (Kd.R_below (by have X_ := aF.out; exact TR) hb)
           have n3_ := aM (Kd.R_below (by have X_ := aT.out; exact TR) hb)
           have n4_ := aM (Kd.R_below (by have X_ := ad.out; exact TR) hb)
           have n5_ := aM (Kd.R_below (by have X_ := ah.out; exact TR) hb)
           have n6_ := aM (Kd.R_below (by have X_ := ag.out; exact TR) hb)
           have n7_ := aM (blk_below (g := gb858) (o := .cells #[.int .i64 aw, .int .i64 ax, .int .i64 az, .slice Ao16 ai.length co16] 28 (0, 0)) TK hb)
           have n8_ := aM (blk_below (g := gb868) (o := .cells #[.int .i64 aN, .int .i64 aQ] 48 (0, 0)) TK hb)
           have n9_ := aM (blk_below (g := gb878) (o := .cells #[.int .i64 aJ, .int .i64 aK, .int .i64 aL, .slice Ao28 au.length co28] 28 (0, 0)) TK hb)
           have ay := aM (blk_below (g := gb889) (o := .cells #[.int .i64 aD, .int .i64 aE, .int .i64 aG, .slice Ao35 ak.length co35] 28 (0, 0)) TK hb)
           have aI := aM (below_step TB hb)
           clear aB
           clear aH
           clear aF
           clear aT
           clear ad
           clear ah
           clear ag
           clear aa
           clear ae
           clear ab
           clear ac
           clear HB
           have aB := n0_
           have aH := n1_
           have aF := n2_
           have aT := n3_
           have ad := n4_
           have ah := n5_
           have ag := n6_
           have aa := n7_
           have ae := n8_
           have ab := n9_
           have ac := ay
           have HB := aI
           clear n0_ n1_ n2_ n3_ n4_ n5_ n6_ n7_ n8_ n9_ ay aI
           (try clear hb)
           (try clear hb2)
           (try clear hk)
           (try clear hi)
           refine hK.out _ _ ⟨(blk_cell aa.out 0).trans rfl, (blk_cell aa.out 1).trans rfl, (blk_cell aa.out 2).trans rfl, (blk_cell aa.out 3).trans rfl, cm, b9⟩ (fun hHeld => ?_)
           clear hK K
           refine nR ?_
           refine pO 28 (some 180) (fun K hK => ?_)
           refine gG Try.func37 #[.int .i64 b7, .int .i64 af] ?_
           with_reducible refine (impl_InSet.calls b7 af bI _ A105.out).mono ?_
           rintro e w' ⟨rfl, ⟨nd, rfl⟩⟩
           refine ⟨_, rfl, ?_⟩
           refine hK.out _ _ ⟨(blk_cell aa.out 0).trans rfl, (blk_cell aa.out 1).trans rfl, (blk_cell aa.out 2).trans rfl, (blk_cell aa.out 3).trans rfl, hHeld.2.2.2.2.1, hHeld.2.2.2.2.2⟩ (fun hHeld => ?_)
           clear hK K
           refine nR ?_
           refine pP 34 (some 186) ?_
           refine pP 35 (some 187) ?_
           refine done_ (done_of HT_.out (by kernel_rfl)) ?_
           try go_wp2
           go_roundg k3
           case measure => have := HJ9.out; have := HK2.out; have := HK3.out; omega
           case rel => exact ⟨(wrap64 (af + 1)), (by first | rfl | (simp; done) | (simp [*]; done)), H', ⟨by have := HJ9.out; have := HK2.out; have := HK3.out; omega⟩, ⟨by (with_reducible repeat (first | apply Kd.R_alloc | apply Kd.R_drewN | apply Kd.R_drew)); exact Kd.R_mono aB.out (fun _ hk => hk.1)⟩, ⟨by (with_reducible repeat (first | apply Kd.R_alloc | apply Kd.R_drewN | apply Kd.R_drew)); exact Kd.R_mono aH.out (fun _ hk => hk.1)⟩, ⟨by have X_ := aF.out; exact TR⟩, ⟨by have X_ := ad.out; exact TR⟩, ⟨by have X_ := ah.out; exact TR⟩, ⟨by have X_ := ag.out; exact TR⟩, ⟨TK⟩, ⟨TK⟩, ⟨TK⟩, ⟨TK⟩, ⟨TB⟩⟩
      ·rw [if_neg c72] at H
       have cA : decide (af < (ar.length : Int)) = false := decide_eq_false c72
       clear c72
       replace H := bE H
       obtain ⟨cp, A110, H⟩ := H
       replace H := bE H
       obtain ⟨cn, A111, H⟩ := H
       replace H := bE H
       obtain ⟨bf, A112, H⟩ := H
       replace H := bE H
       obtain ⟨bc, A113, H⟩ := H
       by_cases a9 : bf = bc
       ·rw [if_pos a9] at H
        have cD : (bf == bc) = true := beq_iff_eq.mpr a9
        have cF : (bf != bc) = false := bne_eq_false_iff_eq.mpr a9
        clear a9
        replace H := bE H
        obtain ⟨t933, A115, H⟩ := H
        obtain rfl := Option.some.inj H
        obtain ⟨Ao116, co116, eo116⟩ := Kd.R_slice aF.out
        subst eo116
        try go_wp2
        (try (rw [drewN_self wr]; generalize hq_ : World.drewN wr _ = wr; have n0_ : Aside0 (Kd.R (Kd.int .u8) 5 wr w.heap.size (fun k_ => some k_ ≠ (.slice Ao12 aS.length co12 : Value).ownBlock) (.slice aV av.length co17) av) := ⟨by rw [← hq_]; exact (by have X_ := aB.out; exact TR)⟩; have n1_ : Aside0 (Kd.R (Kd.int .u8) 5 wr w.heap.size (fun k_ => some k_ ≠ (.slice aV av.length co17 : Value).ownBlock) (.slice Ao12 aS.length co12) aS) := ⟨by rw [← hq_]; exact (by have X_ := aH.out; exact TR)⟩; have n2_ : Aside0 (Kd.R (Kd.int .i64) 3 wr w.heap.size (fun _ => True) (.slice Ao116 ar.length co116) ar) := ⟨by rw [← hq_]; exact (by have X_ := aF.out; exact TR)⟩; have n3_ : Aside0 (Kd.R k48 48 wr w.heap.size (fun k_ => (some k_ ≠ (.slice Ao28 au.length co28 : Value).ownBlock ∧ (some k_ ≠ (.slice Ao35 ak.length co35 : Value).ownBlock ∧ k_ ≠ gb868))) (.slice Ao16 ai.length co16) ai) := ⟨by rw [← hq_]; exact (by have X_ := ad.out; exact TR)⟩; have n4_ : Aside0 (Kd.R k48 48 wr w.heap.size (fun k_ => (some k_ ≠ (.slice Ao16 ai.length co16 : Value).ownBlock ∧ (some k_ ≠ (.slice Ao35 ak.length co35 : Value).ownBlock ∧ k_ ≠ gb868))) (.slice Ao28 au.length co28) au) := ⟨by rw [← hq_]; exact (by have X_ := ah.out; exact TR)⟩; have n5_ : Aside0 (Kd.R k48 48 wr w.heap.size (fun k_ => (some k_ ≠ (.slice Ao16 ai.length co16 : Value).ownBlock ∧ (some k_ ≠ (.slice Ao28 au.length co28 : Value).ownBlock ∧ k_ ≠ gb868))) (.slice Ao35 ak.length co35) ak) := ⟨by rw [← hq_]; exact (by have X_ := ag.out; exact TR)⟩; have n6_ : Aside0 (wr.heap[gb858]? = some (.cells #[.int .i64 aw, .int .i64 ax, .int .i64 az, .slice Ao16 ai.length co16] 28 (0, 0))) := ⟨by rw [← hq_]; exact TK⟩; have n7_ : Aside0 (wr.heap[gb868]? = some (.cells #[.int .i64 aN, .int .i64 aQ] 48 (0, 0))) := ⟨by rw [← hq_]; exact TK⟩; have n8_ : Aside0 (wr.heap[gb878]? = some (.cells #[.int .i64 aJ, .int .i64 aK, .int .i64 aL, .slice Ao28 au.length co28] 28 (0, 0))) := ⟨by rw [← hq_]; exact TK⟩; have n9_ : Aside0 (wr.heap[gb889]? = some (.cells #[.int .i64 aD, .int .i64 aE, .int .i64 aG, .slice Ao35 ak.length co35] 28 (0, 0))) := ⟨by rw [← hq_]; exact TK⟩; have ay : Aside0 (Below w.heap.size w wr) := ⟨by rw [← hq_]; exact TB⟩; clear aB aH aF ad ah ag aa ae ab ac HB hq_; have aB := n0_; have aH := n1_; have aF := n2_; have ad := n3_; have ah := n4_; have ag := n5_; have aa := n6_; have ae := n7_; have ab := n8_; have ac := n9_; have HB := ay; clear n0_ n1_ n2_ n3_ n4_ n5_ n6_ n7_ n8_ n9_ ay))
        replace aB := aM (Kd.R_drew aB.out)
        replace aH := aM (Kd.R_drew aH.out)
        replace aF := aM (Kd.R_drew aF.out)
        replace ad := aM (Kd.R_drew ad.out)
        replace ah := aM (Kd.R_drew ah.out)
        replace ag := aM (Kd.R_drew ag.out)
        replace aa := aM (blk_drew aa.out)
        replace ae := aM (blk_drew ae.out)
        replace ab := aM (blk_drew ab.out)
        replace ac := aM (blk_drew ac.out)
        replace HB := aM (below_drew1 HB.out)
        refine start_ (n := 17) (S := fun w' => w'.cell? ⟨gb858, 0, none⟩ = some (.int .i64 aw) ∧ w'.cell? ⟨gb858, 1, none⟩ = some (.int .i64 ax) ∧ w'.cell? ⟨gb858, 2, none⟩ = some (.int .i64 az) ∧ w'.cell? ⟨gb858, 3, none⟩ = some (.slice Ao16 ai.length co16)) (ds := []) (Array.replicate 17 false) (by kernel_rfl) rfl rfl (cz4 aa.out) (fun hHeld => ?_); refine with_tabW laws_FnScans.tab22 laws_FnScans.bits22 (fun HT_ HW_ => ?_)
        generalize wr.drew = w117 at aB aH aF ad ah ag aa ae ab ac HB hHeld ⊢
        refine pP 0 (some 188) ?_
        refine pP 3 (some 191) ?_
        refine pT 1 (some 189) ?_
        refine pT 4 (some 192) ?_
        refine pT 7 (some 195) ?_
        refine pO 2 (some 190) (fun K hK => ?_)
        refine gG Try.func29 #[.slice aV av.length co17, .agg #[.int .i64 aw, .int .i64 ax, .int .i64 az, .slice Ao16 ai.length co16]] ?_
        with_reducible refine (impl_Found.calls k2 _ _ av aw ax az _ _ ai cp _ ?side1 ?side2 ?side3 ?side4 A110.out).mono ?_
        (case side1 => have X_ := (Kd.R_reads' aB.out).2.2; exact TC)
        (case side2 => exact (Kd.R_reads' aB.out).2.1)
        (case side3 => have X_ := (Kd.R_reads' ad.out).2.2; exact TC)
        (case side4 => exact (Kd.R_reads' ad.out).2.1)
        rintro e w118 ⟨rfl, hb⟩
        refine ⟨_, rfl, ?_⟩
        have n0_ := aM (Kd.R_below (by have X_ := aB.out; exact TR) hb)
        have n1_ := aM (Kd.R_below (by have X_ := aH.out; exact TR) hb)
        have n2_ := aM (Kd.R_below (by have X_ := aF.out; exact TR) hb)
        have n3_ := aM (Kd.R_below (by have X_ := ad.out; exact TR) hb)
        have n4_ := aM (Kd.R_below (by have X_ := ah.out; exact TR) hb)
        have n5_ := aM (Kd.R_below (by have X_ := ag.out; exact TR) hb)
        have n6_ := aM (blk_below (g := gb858) (o := .cells #[.int .i64 aw, .int .i64 ax, .int .i64 az, .slice Ao16 ai.length co16] 28 (0, 0)) TK hb)
        have n7_ := aM (blk_below (g := gb868) (o := .cells #[.int .i64 aN, .int .i64 aQ] 48 (0, 0)) TK hb)
        have n8_ := aM (blk_below (g := gb878) (o := .cells #[.int .i64 aJ, .int .i64 aK, .int .i64 aL, .slice Ao28 au.length co28] 28 (0, 0)) TK hb)
        have n9_ := aM (blk_below (g := gb889) (o := .cells #[.int .i64 aD, .int .i64 aE, .int .i64 aG, .slice Ao35 ak.length co35] 28 (0, 0)) TK hb)
        have ay := aM (below_step TB hb)
        clear aB
        clear aH
        clear aF
        clear ad
        clear ah
        clear ag
        clear aa
        clear ae
        clear ab
        clear ac
        clear HB
        have aB := n0_
        have aH := n1_
        have aF := n2_
        have ad := n3_
        have ah := n4_
        have ag := n5_
        have aa := n6_
        have ae := n7_
        have ab := n8_
        have ac := n9_
        have HB := ay
        clear n0_ n1_ n2_ n3_ n4_ n5_ n6_ n7_ n8_ n9_ ay
        (try clear hb)
        (try clear hb2)
        (try clear hk)
        (try clear hi)
        refine hK.out _ _ (cz4 aa.out) (fun hHeld => ?_)
        clear hK K
        refine nR ?_
        refine pO 5 (some 193) (fun K hK => ?_)
        refine gG Try.func19 #[.slice aV av.length co17, .agg #[.int .i64 aw, .int .i64 ax, .int .i64 az, .slice Ao16 ai.length co16]] ?_
        with_reducible refine (impl_Lacking.calls k2 _ _ av aw ax az _ _ ai cn _ ?side1 ?side2 ?side3 ?side4 A111.out).mono ?_
        (case side1 => have X_ := (Kd.R_reads' aB.out).2.2; exact TC)
        (case side2 => exact (Kd.R_reads' aB.out).2.1)
        (case side3 => have X_ := (Kd.R_reads' ad.out).2.2; exact TC)
        (case side4 => exact (Kd.R_reads' ad.out).2.1)
        rintro e w119 ⟨rfl, hb⟩
        refine ⟨_, rfl, ?_⟩
        have n0_ := aM (Kd.R_below (by have X_ := aB.out; exact TR) hb)
        have n1_ := aM (Kd.R_below (by have X_ := aH.out; exact TR) hb)
        have n2_ := aM (Kd.R_below (by have X_ := aF.out; exact TR) hb)
        have n3_ := aM (Kd.R_below (by have X_ := ad.out; exact TR) hb)
        have n4_ := aM (Kd.R_below (by have X_ := ah.out; exact TR) hb)
        have n5_ := aM (Kd.R_below (by have X_ := ag.out; exact TR) hb)
        have n6_ := aM (blk_below (g := gb858) (o := .cells #[.int .i64 aw, .int .i64 ax, .int .i64 az, .slice Ao16 ai.length co16] 28 (0, 0)) TK hb)
        have n7_ := aM (blk_below (g := gb868) (o := .cells #[.int .i64 aN, .int .i64 aQ] 48 (0, 0)) TK hb)
        have n8_ := aM (blk_below (g := gb878) (o := .cells #[.int .i64 aJ, .int .i64 aK, .int .i64 aL, .slice Ao28 au.length co28] 28 (0, 0)) TK hb)
        have n9_ := aM (blk_below (g := gb889) (o := .cells #[.int .i64 aD, .int .i64 aE, .int .i64 aG, .slice Ao35 ak.length co35] 28 (0, 0)) TK hb)
        have ay := aM (below_step TB hb)
        clear aB
        clear aH
        clear aF
        clear ad
        clear ah
        clear ag
        clear aa
        clear ae
        clear ab
        clear ac
        clear HB
        have aB := n0_
        have aH := n1_
        have aF := n2_
        have ad := n3_
        have ah := n4_
        have ag := n5_
        have aa := n6_
        have ae := n7_
        have ab := n8_
        have ac := n9_
        have HB := ay
        clear n0_ n1_ n2_ n3_ n4_ n5_ n6_ n7_ n8_ n9_ ay
        (try clear hb)
        (try clear hb2)
        (try clear hk)
        (try clear hi)
        refine hK.out _ _ (cz4 aa.out) (fun hHeld => ?_)
        clear hK K
        refine nR ?_
        refine pO 6 (some 194) (fun K hK => ?_)
        refine gG Try.func38 #[.int .i64 cp, .int .i64 cn] ?_
        with_reducible refine (impl_Union.calls cp cn bf _ A112.out).mono ?_
        rintro e w' ⟨rfl, ⟨nd, rfl⟩⟩
        refine ⟨_, rfl, ?_⟩
        refine hK.out _ _ (cz4 aa.out) (fun hHeld => ?_)
        clear hK K
        refine nR ?_
        refine pO 8 (some 196) (fun K hK => ?_)
        refine gG Try.func39 #[.agg #[.int .i64 aw, .int .i64 ax, .int .i64 az, .slice Ao16 ai.length co16]] ?_
        with_reducible refine (impl_AllParts.calls aw ax az _ _ ai bc _ ?side1 ?side2 A113.out).mono ?_
        (case side1 => have X_ := (Kd.R_reads' ad.out).2.2; exact TC)
        (case side2 => exact (Kd.R_reads' ad.out).2.1)
        rintro e w120 ⟨rfl, hb⟩
        refine ⟨_, rfl, ?_⟩
        have n0_ := aM (Kd.R_below (by have X_ := aB.out; exact TR) hb)
        have n1_ := aM (Kd.R_below (by have X_ := aH.out; exact TR) hb)
        have n2_ := aM (Kd.R_below (by have X_ := aF.out; exact TR) hb)
        have n3_ := aM (Kd.R_below (by have X_ := ad.out; exact TR) hb)
        have n4_ := aM (Kd.R_below (by have X_ := ah.out; exact TR) hb)
        have n5_ := aM (Kd.R_below (by have X_ := ag.out; exact TR) hb)
        have n6_ := aM (blk_below (g := gb858) (o := .cells #[.int .i64 aw, .int .i64 ax, .int .i64 az, .slice Ao16 ai.length co16] 28 (0, 0)) TK hb)
        have n7_ := aM (blk_below (g := gb868) (o := .cells #[.int .i64 aN, .int .i64 aQ] 48 (0, 0)) TK hb)
        have n8_ := aM (blk_below (g := gb878) (o := .cells #[.int .i64 aJ, .int .i64 aK, .int .i64 aL, .slice Ao28 au.length co28] 28 (0, 0)) TK hb)
        have n9_ := aM (blk_below (g := gb889) (o := .cells #[.int .i64 aD, .int .i64 aE, .int .i64 aG, .slice Ao35 ak.length co35] 28 (0, 0)) TK hb)
        have ay := aM (below_step TB hb)
        clear aB
        clear aH
        clear aF
        clear ad
        clear ah
        clear ag
        clear aa
        clear ae
        clear ab
        clear ac
        clear HB
        have aB := n0_
        have aH := n1_
        have aF := n2_
        have ad := n3_
        have ah := n4_
        have ag := n5_
        have aa := n6_
        have ae := n7_
        have ab := n8_
        have ac := n9_
        have HB := ay
        clear n0_ n1_ n2_ n3_ n4_ n5_ n6_ n7_ n8_ n9_ ay
        (try clear hb)
        (try clear hb2)
        (try clear hk)
        (try clear hi)
        refine hK.out _ _ (cz4 aa.out) (fun hHeld => ?_)
        clear hK K
        refine nR ?_
        refine pP 9 (some 197) ?_
        refine pP 10 (some 198) ?_
        refine pP 11 (some 199) ?_
        refine pT 12 (some 200) ?_
        refine pO 13 (some 201) (fun K hK => ?_)
        refine gG Try.func19 #[.slice Ao12 aS.length co12, .agg #[.int .i64 aw, .int .i64 ax, .int .i64 az, .slice Ao16 ai.length co16]] ?_
        with_reducible refine (impl_Lacking.calls k2 _ _ aS aw ax az _ _ ai t933 _ ?side1 ?side2 ?side3 ?side4 A115.out).mono ?_
        (case side1 => have X_ := (Kd.R_reads' aH.out).2.2; exact TC)
        (case side2 => exact (Kd.R_reads' aH.out).2.1)
        (case side3 => have X_ := (Kd.R_reads' ad.out).2.2; exact TC)
        (case side4 => exact (Kd.R_reads' ad.out).2.1)
        rintro e w121 ⟨rfl, hb⟩
        refine ⟨_, rfl, ?_⟩
        have n0_ := aM (Kd.R_below (by have X_ := aB.out; exact TR) hb)
        have n1_ := aM (Kd.R_below (by have X_ := aH.out; exact TR) hb)
        have n2_ := aM (Kd.R_below (by have X_ := aF.out; exact TR) hb)
        have n3_ := aM (Kd.R_below (by have X_ := ad.out; exact TR) hb)
        have n4_ := aM (Kd.R_below (by have X_ := ah.out; exact TR) hb)
        have n5_ := aM (Kd.R_below (by have X_ := ag.out; exact TR) hb)
        have n6_ := aM (blk_below (g := gb858) (o := .cells #[.int .i64 aw, .int .i64 ax, .int .i64 az, .slice Ao16 ai.length co16] 28 (0, 0)) TK hb)
        have n7_ := aM (blk_below (g := gb868) (o := .cells #[.int .i64 aN, .int .i64 aQ] 48 (0, 0)) TK hb)
        have n8_ := aM (blk_below (g := gb878) (o := .cells #[.int .i64 aJ, .int .i64 aK, .int .i64 aL, .slice Ao28 au.length co28] 28 (0, 0)) TK hb)
        have n9_ := aM (blk_below (g := gb889) (o := .cells #[.int .i64 aD, .int .i64 aE, .int .i64 aG, .slice Ao35 ak.length co35] 28 (0, 0)) TK hb)
        have ay := aM (below_step TB hb)
        clear aB
        clear aH
        clear aF
        clear ad
        clear ah
        clear ag
        clear aa
        clear ae
        clear ab
        clear ac
        clear HB
        have aB := n0_
        have aH := n1_
        have aF := n2_
        have ad := n3_
        have ah := n4_
        have ag := n5_
        have aa := n6_
        have ae := n7_
        have ab := n8_
        have ac := n9_
        have HB := ay
        clear n0_ n1_ n2_ n3_ n4_ n5_ n6_ n7_ n8_ n9_ ay
        (try clear hb)
        (try clear hb2)
        (try clear hk)
        (try clear hi)
        refine hK.out _ _ (cz4 aa.out) (fun hHeld => ?_)
        clear hK K
        refine nR ?_
        refine pP 14 (some 202) ?_
        refine pP 15 (some 203) ?_
        refine pP 16 (some 2) ?_
        refine done_ (done_of HT_.out (by kernel_rfl)) ?_
        try go_wp2
        go_ret
        exact ⟨by first | rfl | (simp [errW_none, errW_some] <;> rfl) | (simp [*, errW_none, errW_some] <;> rfl), TB⟩
       ·rw [if_neg a9] at H
        have cD : (bf == bc) = false := beq_eq_false_iff_ne.mpr a9
        have cF : (bf != bc) = true := bne_iff_ne.mpr a9
        exact absurd H (by simp)

end Go.Proofs.Ytfkndpjbkndhcaa.Q
