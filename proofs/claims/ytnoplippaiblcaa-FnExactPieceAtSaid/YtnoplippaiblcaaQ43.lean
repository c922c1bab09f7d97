/- Functions of the program as plain Lean functions, and that a call of each comes to what its function tells. Written by a program of this seat. -/
import Derived.Test.YtnoplippaiblcaaQ0
import Derived.Test.YtnoplippaiblcaaQ2
import Derived.Test.YtnoplippaiblcaaQ3
import Derived.Test.YtnoplippaiblcaaQ6
import Derived.Test.YtnoplippaiblcaaQ8
import Derived.Test.YtnoplippaiblcaaQ9
import Derived.Test.YtnoplippaiblcaaQ18
import Derived.Test.YtnoplippaiblcaaQ40
import Derived.Test.YtnoplippaiblcaaQ42
namespace Go.Proofs.Ytnoplippaiblcaa.Q
open Go.RowKit Go.Proofs.YtnoplippaiblcaaW.PrintWords Go.Proofs.YtnoplippaiblcaaW.PrintLast Go.Proofs.YtnoplippaiblcaaW.PrintMore
attribute [local go_sem] max2_int min2_int max_two min_two max_three min_three max_four min_four   -- for this text's walks alone
set_option linter.unusedVariables false
set_option linter.unusedSimpArgs false

/-! ### laws_FnExactPieceAt: function 8 -/
mutual
def laws_FnExactPieceAt.j0 : Nat → Int → List Int → Bool → List Int → Bool → Bool → Int → Int → Int → List (S86) → Int → List Int → Int → Int → Int → List (S72) → Int → List Int → Option (Bool)
  | 0, _, _, _, _, _, _, _, _, _, _, _, _, _, _, _, _, _, _ => none
  | k + 1, x2, x8, x9, x12, x13, x57, x658000, x658001, x658002, x658003, x659000, x659001, x682000, x682001, x682002, x682003, x687000, x687001 => if x57 = true then (none) else ((laws_toManifest.f k x658000 x658001 x658002 x658003).bind fun bt692 => ((laws_eqManifest.f k x682000 x682001 x682002 x682003 bt692.1 bt692.2.1 bt692.2.2.1 bt692.2.2.2).bind fun t698 => (if t698 = true then ((laws_toBuild.f k x659000 x659001).bind fun bt699 => ((laws_eqBuild.f k x687000 x687001 bt699.1 bt699.2).bind fun t703 => (if t703 = true then ((laws_markManifest.f k x682000 x682001 x682002 x682003 1).bind fun bt704 => ((laws_markBuild.f k x687000 x687001 bt704.1).bind fun bt706 => (if bt706.1 < 0 then (laws_FnExactPieceAt.j1 k x2 x8 x9 x12 true x658000 x658001 x658002 x658003 x659000 x659001) else ((laws_eqByteS.f k x12 x8).bind fun t708 => (if t708 = true then (laws_FnExactPieceAt.j1 k x2 x8 x9 x12 (x13 != x9) x658000 x658001 x658002 x658003 x659000 x659001) else (laws_FnExactPieceAt.j1 k x2 x8 x9 x12 true x658000 x658001 x658002 x658003 x659000 x659001)))))) else (none)))) else (none))))
def laws_FnExactPieceAt.j1 : Nat → Int → List Int → Bool → List Int → Bool → Int → Int → Int → List (S86) → Int → List Int → Option (Bool)
  | 0, _, _, _, _, _, _, _, _, _, _, _ => none
  | k + 1, x2, x8, x9, x12, x86, x658000, x658001, x658002, x658003, x659000, x659001 => if x86 = true then (none) else ((laws_markByteS.f k x12 1).bind fun bt709 => ((laws_heldByteS.f k bt709.2 1).bind fun t711 => (if t711 < 0 then (none) else (if t711 = bt709.1 then ((laws_toManifest.f k x658000 x658001 x658002 x658003).bind fun bt712 => ((laws_toBuild.f k x659000 x659001).bind fun bt718 => ((impl_PieceAt.f k bt712.1 bt712.2.1 bt712.2.2.1 bt712.2.2.2 bt718.1 bt718.2 x2).bind fun bt722 => ((laws_eqByteS.f k bt722.1 x8).bind fun t726 => (if t726 = true then (laws_FnExactPieceAt.j2 k bt709.2 bt709.1 (bt722.2 != x9)) else (laws_FnExactPieceAt.j2 k bt709.2 bt709.1 true)))))) else (none)))))
def laws_FnExactPieceAt.j2 : Nat → List Int → Int → Bool → Option (Bool)
  | 0, _, _, _ => none
  | k + 1, x12, x15, x115 => if x115 = true then (none) else ((laws_heldByteS.f k x12 1).bind fun t727 => (if t727 < 0 then (none) else (if t727 = x15 then (some true) else (none))))
end
def laws_FnExactPieceAt.f (k : Nat) (a0_0 : Int) (a0_1 : Int) (a0_2 : Int) (l0_3 : List (S86)) (a1_0 : Int) (l1_1 : List Int) (a2 : Int) : Option (Bool) := (laws_szManifest.f a0_0 a0_1 a0_2 l0_3 1048576).bind fun t659 => (if t659 < 0 then (some true) else ((laws_szBuild.f a1_0 l1_1 t659).bind fun t660 => (if t660 < 0 then (some true) else ((laws_toManifest.f k a0_0 a0_1 a0_2 l0_3).bind fun bt661 => ((laws_toBuild.f k a1_0 l1_1).bind fun bt667 => ((spec_PieceAt.f k bt661.1 bt661.2.1 bt661.2.2.1 bt661.2.2.2 bt667.1 bt667.2 a2).bind fun bt671 => ((laws_toManifest.f k a0_0 a0_1 a0_2 l0_3).bind fun bt675 => ((laws_toBuild.f k a1_0 l1_1).bind fun bt682 => ((impl_PieceAt.f k bt675.1 bt675.2.1 bt675.2.2.1 bt675.2.2.2 bt682.1 bt682.2 a2).bind fun bt687 => ((laws_eqByteS.f k bt687.1 bt671.1).bind fun t691 => (if t691 = true then (laws_FnExactPieceAt.j0 k a2 bt671.1 bt671.2 bt687.1 bt687.2 (bt687.2 != bt671.2) a0_0 a0_1 a0_2 l0_3 a1_0 l1_1 bt675.1 bt675.2.1 bt675.2.2.1 bt675.2.2.2 bt682.1 bt682.2) else (laws_FnExactPieceAt.j0 k a2 bt671.1 bt671.2 bt687.1 bt687.2 true a0_0 a0_1 a0_2 l0_3 a1_0 l1_1 bt675.1 bt675.2.1 bt675.2.2.1 bt675.2.2.2 bt682.1 bt682.2))))))))))))
theorem laws_FnExactPieceAt.mono_l : ∀ k, (∀ y0 y1 y2 y3 y4 y5 y6 y7 y8 y9 y10 y11 y12 y13 y14 y15 y16 y17, LeO (laws_FnExactPieceAt.j0 k y0 y1 y2 y3 y4 y5 y6 y7 y8 y9 y10 y11 y12 y13 y14 y15 y16 y17) (laws_FnExactPieceAt.j0 (k + 1) y0 y1 y2 y3 y4 y5 y6 y7 y8 y9 y10 y11 y12 y13 y14 y15 y16 y17)) ∧ (∀ y0 y1 y2 y3 y4 y5 y6 y7 y8 y9 y10, LeO (laws_FnExactPieceAt.j1 k y0 y1 y2 y3 y4 y5 y6 y7 y8 y9 y10) (laws_FnExactPieceAt.j1 (k + 1) y0 y1 y2 y3 y4 y5 y6 y7 y8 y9 y10)) ∧ (∀ y0 y1 y2, LeO (laws_FnExactPieceAt.j2 k y0 y1 y2) (laws_FnExactPieceAt.j2 (k + 1) y0 y1 y2))
  | 0 => ⟨fun _ _ _ _ _ _ _ _ _ _ _ _ _ _ _ _ _ _ r h => by simp [laws_FnExactPieceAt.j0] at h, fun _ _ _ _ _ _ _ _ _ _ _ r h => by simp [laws_FnExactPieceAt.j1] at h, fun _ _ _ r h => by simp [laws_FnExactPieceAt.j2] at h⟩
  | k + 1 => by
    have m0_ := @impl_PieceAt.mono
    have m1_ := @laws_eqBuild.mono
    have m2_ := @laws_eqByteS.mono
    have m3_ := @laws_eqManifest.mono
    have m4_ := @laws_heldByteS.mono
    have m5_ := @laws_markBuild.mono
    have m6_ := @laws_markByteS.mono
    have m7_ := @laws_markManifest.mono
    have m8_ := @laws_toBuild.mono
    have m9_ := @laws_toManifest.mono
    have m10_ := @spec_PieceAt.mono
    obtain ⟨ih0, ih1, ih2⟩ := laws_FnExactPieceAt.mono_l k
    refine ⟨?_, ?_, ?_⟩
    · intro y0 y1 y2 y3 y4 y5 y6 y7 y8 y9 y10 y11 y12 y13 y14 y15 y16 y17
      unfold laws_FnExactPieceAt.j0
      exact LM
    · intro y0 y1 y2 y3 y4 y5 y6 y7 y8 y9 y10
      unfold laws_FnExactPieceAt.j1
      exact LM
    · intro y0 y1 y2
      unfold laws_FnExactPieceAt.j2
      exact LM
theorem laws_FnExactPieceAt.mono : ∀ a0 a1 a2 a3 a4 a5 a6 k, LeO (laws_FnExactPieceAt.f k a0 a1 a2 a3 a4 a5 a6) (laws_FnExactPieceAt.f (k + 1) a0 a1 a2 a3 a4 a5 a6) := by
  intro a0 a1 a2 a3 a4 a5 a6 k
  have m0_ := @impl_PieceAt.mono
  have m1_ := @laws_eqBuild.mono
  have m2_ := @laws_eqByteS.mono
  have m3_ := @laws_eqManifest.mono
  have m4_ := @laws_heldByteS.mono
  have m5_ := @laws_markBuild.mono
  have m6_ := @laws_markByteS.mono
  have m7_ := @laws_markManifest.mono
  have m8_ := @laws_toBuild.mono
  have m9_ := @laws_toManifest.mono
  have m10_ := @spec_PieceAt.mono
  obtain ⟨ih0, ih1, ih2⟩ := laws_FnExactPieceAt.mono_l k
  unfold laws_FnExactPieceAt.f
  exact LM
def laws_FnExactPieceAt.T8 : Bool × List (List Nat × List Nat) := (true, [([], []), ([0], [0]), ([], []), ([2, 1], [2]), ([], []), ([1, 3, 4, 3], [1, 3, 4]), ([5], [5]), ([6], [6]), ([6], [6]), ([7, 5, 0, 1, 2, 3, 4, 5, 6, 7], [7]), ([8, 9, 0, 1, 2, 3, 4, 5, 6, 7, 8, 9], [8])])
def laws_FnExactPieceAt.B8 : List Nat := [0, 1, 0, 7, 0, 31, 63, 127, 127, 255, 1023]
theorem laws_FnExactPieceAt.tab8 : rtab .any (opsOf Try.f8 8) = laws_FnExactPieceAt.T8 := by kernel_rfl
theorem laws_FnExactPieceAt.bits8 : waitsOk laws_FnExactPieceAt.T8.2 laws_FnExactPieceAt.B8 = true := by kernel_rfl
def laws_FnExactPieceAt.T31 : Bool × List (List Nat × List Nat) := (true, [([], []), ([0], [0]), ([], []), ([2, 1], [2]), ([], []), ([1, 3, 4, 3], [1, 3, 4]), ([5], [5]), ([6], [6]), ([6], [6]), ([7, 5, 0, 1, 2, 3, 4, 5, 6, 7], [7]), ([8, 9, 0, 1, 2, 3, 4, 5, 6, 7, 8, 9], [8])])
def laws_FnExactPieceAt.B31 : List Nat := [0, 1, 0, 7, 0, 31, 63, 127, 127, 255, 1023]
theorem laws_FnExactPieceAt.tab31 : rtab .any (opsOf Try.f8 31) = laws_FnExactPieceAt.T31 := by kernel_rfl
theorem laws_FnExactPieceAt.bits31 : waitsOk laws_FnExactPieceAt.T31.2 laws_FnExactPieceAt.B31 = true := by kernel_rfl
set_option maxHeartbeats 40000000 in
set_option maxRecDepth 100000 in
theorem laws_FnExactPieceAt.calls (k : Nat) (a0_0 : Int) (a0_1 : Int) (a0_2 : Int) (A0_3 : Option Addr) (c0_3 : Nat) (l0_3 : List (S86)) (a1_0 : Int) (A1_1 : Option Addr) (c1_1 : Nat) (l1_1 : List Int) (a2 : Int) (r : Bool) (w : World) (hr0_3 : Kd.C k86 w A0_3 l0_3.length l0_3) (hc0_3 : l0_3.length ≤ c0_3) (hr1_1 : Kd.C (Kd.int .u8) w A1_1 l1_1.length l1_1) (hc1_1 : l1_1.length ≤ c1_1) (h : laws_FnExactPieceAt.f k a0_0 a0_1 a0_2 l0_3 a1_0 l1_1 a2 = some r) :
    Calls Try.prog 8 #[.agg #[.int .i64 a0_0, .int .i64 a0_1, .int .i64 a0_2, .slice A0_3 l0_3.length c0_3], .agg #[.int .i64 a1_0, .slice A1_1 l1_1.length c1_1], .int .i64 a2] w fun e w' => e = .returned (.bool r) ∧ Below w.heap.size w w' := by
  have hu24 := Try.underlying24
  have hu27 := Try.underlying27
  have hu33 := Try.underlying33
  have hu35 := Try.underlying35
  have HR0_3 := aM hr0_3
  have HC0_3 := aM hc0_3
  clear hr0_3 hc0_3
  have HR1_1 := aM hr1_1
  have HC1_1 := aM hc1_1
  clear hr1_1 hc1_1
  have HB := aM (Below.refl w.heap.size w)
  have H := h
  clear h
  unfold laws_FnExactPieceAt.f at H
  replace H := bE H
  obtain ⟨t659, A4, H⟩ := H
  go_enter Try.func8, Try.ntmps8
  go_wp2_with (first | ((with_reducible refine gate_dst (N := 3) rfl ?_); refine gBx 3 #[.int .i64 a0_0, .int .i64 a0_1, .int .i64 a0_2, .slice A0_3 l0_3.length c0_3] 24 ?_; intro gb657 hg w5 hbox hb; have BK657 := aM (hbox); have GW657 := aM ((by rw [hg]; exact (below_size TB) : w.heap.size ≤ gb657)); have GE657 := aM ((by rw [hg]; exact (below_size TB) : w.heap.size ≤ gb657)); replace HB := aM (below_step TB hb); clear hb hbox hg) | ((with_reducible refine gate_dst (N := 4) rfl ?_); refine gBx 4 #[.int .i64 a1_0, .slice A1_1 l1_1.length c1_1] 27 ?_; intro gb658 hg w6 hbox hb; have BK658 := aM (hbox); have GW658 := aM ((by rw [hg]; exact (below_size TB) : w.heap.size ≤ gb658)); have GE658 := aM ((by rw [hg]; exact (below_size TB) : w.heap.size ≤ gb658)); have NB657_658 := aM ((by rw [hg]; exact Nat.ne_of_lt (blk_lt (g := gb657) (o := .cells #[.int .i64 a0_0, .int .i64 a0_1, .int .i64 a0_2, .slice A0_3 l0_3.length c0_3] 24 (0, 0)) TK) : gb657 ≠ gb658)); have NB658_657 := aM ((by rw [hg]; exact Nat.ne_of_gt (blk_lt (g := gb657) (o := .cells #[.int .i64 a0_0, .int .i64 a0_1, .int .i64 a0_2, .slice A0_3 l0_3.length c0_3] 24 (0, 0)) TK) : gb658 ≠ gb657)); replace BK657 := aM (blk_below (g := gb657) (o := .cells #[.int .i64 a0_0, .int .i64 a0_1, .int .i64 a0_2, .slice A0_3 l0_3.length c0_3] 24 (0, 0)) TK hb); replace HB := aM (below_step TB hb); clear hb hbox hg; have hnb7 := NB657_658.out; have hnc7 := NB658_657.out; obtain ⟨hcz8_0, hcz8_1, hcz8_2, hcz8_3⟩ := cz4 BK657.out; obtain ⟨hfz8_0, hfz8_1, hfz8_2, hfz8_3⟩ := fz4 BK657.out) | ((with_reducible refine gate_callee (f := 11) rfl ?_); (with_reducible refine gate_dst (N := 21) rfl ?_); generalize hG_ : wpList _ _ _ _ _ _ = G_))
  subst hG_
  by_cases c9 : t659 < 0
  · rw [if_pos c9] at H
    have c9b0 : decide (t659 < 0) = true := decide_eq_true c9
    clear c9
    obtain rfl := Option.some.inj H
    go_wp2_with (first | ((with_reducible refine gate_callee (f := 11) rfl ?_); refine gL (some 21) Try.func11 #[.agg #[.int .i64 a0_0, .int .i64 a0_1, .int .i64 a0_2, .slice A0_3 l0_3.length c0_3], .int .i64 1048576] ?_; (with_reducible refine (laws_szManifest.calls a0_0 a0_1 a0_2 _ _ l0_3 1048576 t659 _ ?side1 ?side2 A4.out).mono ?_); (case side1 => repeat (first | exact (Kd.C_below HR0_3.out TB) | (with_reducible refine Kd.C_alloc ?_ _) | (with_reducible refine Kd.C_drewN ?_ _) | (with_reducible refine Kd.C_drew ?_))); (case side2 => exact HC0_3.out); rintro e w10 ⟨rfl, hb⟩; refine ⟨_, rfl, ?_⟩; replace BK657 := aM (blk_below (g := gb657) (o := .cells #[.int .i64 a0_0, .int .i64 a0_1, .int .i64 a0_2, .slice A0_3 l0_3.length c0_3] 24 (0, 0)) TK hb); replace BK658 := aM (blk_below (g := gb658) (o := .cells #[.int .i64 a1_0, .slice A1_1 l1_1.length c1_1] 27 (0, 0)) TK hb); replace HB := aM (below_step TB hb); clear hb))
    go_ret
    exact ⟨by first | rfl | (simp [errW_none, errW_some] <;> rfl) | (simp [*, errW_none, errW_some] <;> rfl), TB⟩
  · rw [if_neg c9] at H
    have c9b0 : decide (t659 < 0) = false := decide_eq_false c9
    clear c9
    replace H := bE H
    obtain ⟨t660, A11, H⟩ := H
    go_wp2_with (first | ((with_reducible refine gate_callee (f := 11) rfl ?_); refine gL (some 21) Try.func11 #[.agg #[.int .i64 a0_0, .int .i64 a0_1, .int .i64 a0_2, .slice A0_3 l0_3.length c0_3], .int .i64 1048576] ?_; (with_reducible refine (laws_szManifest.calls a0_0 a0_1 a0_2 _ _ l0_3 1048576 t659 _ ?side1 ?side2 A4.out).mono ?_); (case side1 => repeat (first | exact (Kd.C_below HR0_3.out TB) | (with_reducible refine Kd.C_alloc ?_ _) | (with_reducible refine Kd.C_drewN ?_ _) | (with_reducible refine Kd.C_drew ?_))); (case side2 => exact HC0_3.out); rintro e w12 ⟨rfl, hb⟩; refine ⟨_, rfl, ?_⟩; replace BK657 := aM (blk_below (g := gb657) (o := .cells #[.int .i64 a0_0, .int .i64 a0_1, .int .i64 a0_2, .slice A0_3 l0_3.length c0_3] 24 (0, 0)) TK hb); replace BK658 := aM (blk_below (g := gb658) (o := .cells #[.int .i64 a1_0, .slice A1_1 l1_1.length c1_1] 27 (0, 0)) TK hb); replace HB := aM (below_step TB hb); clear hb; have hnb13 := NB658_657.out; have hnc13 := NB657_658.out; obtain ⟨hcz14_0, hcz14_1⟩ := cz2 BK658.out; obtain ⟨hfz14_0, hfz14_1⟩ := fz2 BK658.out) | ((with_reducible refine gate_callee (f := 12) rfl ?_); (with_reducible refine gate_dst (N := 26) rfl ?_); generalize hG_ : wpList _ _ _ _ _ _ = G_))
    subst hG_
    by_cases c15 : t660 < 0
    · rw [if_pos c15] at H
      have c15b0 : decide (t660 < 0) = true := decide_eq_true c15
      clear c15
      obtain rfl := Option.some.inj H
      go_wp2_with (first | ((with_reducible refine gate_callee (f := 12) rfl ?_); refine gL (some 26) Try.func12 #[.agg #[.int .i64 a1_0, .slice A1_1 l1_1.length c1_1], .int .i64 t659] ?_; (with_reducible refine (laws_szBuild.calls a1_0 _ _ l1_1 t659 t660 _ ?side1 ?side2 A11.out).mono ?_); (case side1 => repeat (first | exact (Kd.C_below HR1_1.out TB) | (with_reducible refine Kd.C_alloc ?_ _) | (with_reducible refine Kd.C_drewN ?_ _) | (with_reducible refine Kd.C_drew ?_))); (case side2 => exact HC1_1.out); rintro e w16 ⟨rfl, hb⟩; refine ⟨_, rfl, ?_⟩; replace BK657 := aM (blk_below (g := gb657) (o := .cells #[.int .i64 a0_0, .int .i64 a0_1, .int .i64 a0_2, .slice A0_3 l0_3.length c0_3] 24 (0, 0)) TK hb); replace BK658 := aM (blk_below (g := gb658) (o := .cells #[.int .i64 a1_0, .slice A1_1 l1_1.length c1_1] 27 (0, 0)) TK hb); replace HB := aM (below_step TB hb); clear hb))
      go_ret
      exact ⟨by first | rfl | (simp [errW_none, errW_some] <;> rfl) | (simp [*, errW_none, errW_some] <;> rfl), TB⟩
    · rw [if_neg c15] at H
      have c15b0 : decide (t660 < 0) = false := decide_eq_false c15
      clear c15
      replace H := bE H
      obtain ⟨⟨t661, t662, t663, t664⟩, A17, H⟩ := H
      dsimp only at H
      replace H := bE H
      obtain ⟨⟨t667, t668⟩, A18, H⟩ := H
      dsimp only at H
      replace H := bE H
      obtain ⟨⟨t671, t674⟩, A19, H⟩ := H
      dsimp only at H
      replace H := bE H
      obtain ⟨⟨t675, t676, t677, t678⟩, A20, H⟩ := H
      dsimp only at H
      replace H := bE H
      obtain ⟨⟨t682, t683⟩, A21, H⟩ := H
      dsimp only at H
      replace H := bE H
      obtain ⟨⟨t687, t690⟩, A22, H⟩ := H
      dsimp only at H
      have HC23 := aM H
      clear H
      try go_wp2_with (first | ((with_reducible refine gate_callee (f := 12) rfl ?_); refine gL (some 26) Try.func12 #[.agg #[.int .i64 a1_0, .slice A1_1 l1_1.length c1_1], .int .i64 t659] ?_; (with_reducible refine (laws_szBuild.calls a1_0 _ _ l1_1 t659 t660 _ ?side1 ?side2 A11.out).mono ?_); (case side1 => repeat (first | exact (Kd.C_below HR1_1.out TB) | (with_reducible refine Kd.C_alloc ?_ _) | (with_reducible refine Kd.C_drewN ?_ _) | (with_reducible refine Kd.C_drew ?_))); (case side2 => exact HC1_1.out); rintro e w24 ⟨rfl, hb⟩; refine ⟨_, rfl, ?_⟩; replace BK657 := aM (blk_below (g := gb657) (o := .cells #[.int .i64 a0_0, .int .i64 a0_1, .int .i64 a0_2, .slice A0_3 l0_3.length c0_3] 24 (0, 0)) TK hb); replace BK658 := aM (blk_below (g := gb658) (o := .cells #[.int .i64 a1_0, .slice A1_1 l1_1.length c1_1] 27 (0, 0)) TK hb); replace HB := aM (below_step TB hb); clear hb))
      replace BK657 := aM (blk_drew BK657.out)
      replace BK658 := aM (blk_drew BK658.out)
      replace HB := aM (below_drew1 HB.out)
      refine start_ (n := 11) (S := fun w' => w'.cell? ⟨gb657, 0, none⟩ = some (.int .i64 a0_0) ∧ w'.cell? ⟨gb657, 1, none⟩ = some (.int .i64 a0_1) ∧ w'.cell? ⟨gb657, 2, none⟩ = some (.int .i64 a0_2) ∧ w'.cell? ⟨gb657, 3, none⟩ = some (.slice A0_3 l0_3.length c0_3) ∧ w'.cell? ⟨gb658, 0, none⟩ = some (.int .i64 a1_0) ∧ w'.cell? ⟨gb658, 1, none⟩ = some (.slice A1_1 l1_1.length c1_1)) (ds := []) (Array.replicate 11 false) (by kernel_rfl) rfl rfl ⟨(blk_cell BK657.out 0).trans rfl, (blk_cell BK657.out 1).trans rfl, (blk_cell BK657.out 2).trans rfl, (blk_cell BK657.out 3).trans rfl, (blk_cell BK658.out 0).trans rfl, (blk_cell BK658.out 1).trans rfl⟩ (fun hHeld => ?_); refine with_tabW laws_FnExactPieceAt.tab8 laws_FnExactPieceAt.bits8 (fun HT_ HW_ => ?_)
      generalize w24.drew = w25 at BK657 BK658 HB hHeld ⊢
      refine pP 4 (some 34) ?_
      refine pT 0 (some 30) ?_
      refine pT 2 (some 32) ?_
      refine pO 1 (some 31) (fun K hK => ?_)
      refine gG Try.func14 #[.agg #[.int .i64 a0_0, .int .i64 a0_1, .int .i64 a0_2, .slice A0_3 l0_3.length c0_3]] ?_
      with_reducible refine (laws_toManifest.calls k a0_0 a0_1 a0_2 _ _ l0_3 t661 t662 t663 t664 _ ?side1 ?side2 A17.out).mono ?_
      (case side1 => have X_ := (Kd.C_below HR0_3.out HB.out); exact TC)
      (case side2 => exact HC0_3.out)
      rintro e w26 ⟨v665, rfl, ho0, hb⟩
      refine ⟨_, rfl, ?_⟩
      have n0_ := aM (Kd.R_lower ho0 (below_size TB))
      have n1_ := aM (blk_below (g := gb657) (o := .cells #[.int .i64 a0_0, .int .i64 a0_1, .int .i64 a0_2, .slice A0_3 l0_3.length c0_3] 24 (0, 0)) TK hb)
      have n2_ := aM (blk_below (g := gb658) (o := .cells #[.int .i64 a1_0, .slice A1_1 l1_1.length c1_1] 27 (0, 0)) TK hb)
      have n3_ := aM (below_step TB hb)
      clear BK657
      clear BK658
      clear HB
      have HO666 := n0_
      have BK657 := n1_
      have BK658 := n2_
      have HB := n3_
      clear n0_ n1_ n2_ n3_
      (try clear hb)
      (try clear hb2)
      (try clear hk)
      (try clear hi)
      (try clear ho0)
      refine hK.out _ _ ⟨(blk_cell BK657.out 0).trans rfl, (blk_cell BK657.out 1).trans rfl, (blk_cell BK657.out 2).trans rfl, (blk_cell BK657.out 3).trans rfl, (blk_cell BK658.out 0).trans rfl, (blk_cell BK658.out 1).trans rfl⟩ (fun hHeld => ?_)
      clear hK K
      refine nR ?_
      refine pO 3 (some 33) (fun K hK => ?_)
      refine gG Try.func15 #[.agg #[.int .i64 a1_0, .slice A1_1 l1_1.length c1_1]] ?_
      with_reducible refine (laws_toBuild.calls k a1_0 _ _ l1_1 t667 t668 _ ?side1 ?side2 A18.out).mono ?_
      (case side1 => have X_ := (Kd.C_below HR1_1.out HB.out); exact TC)
      (case side2 => exact HC1_1.out)
      rintro e w27 ⟨v669, rfl, ho0, hb⟩
      refine ⟨_, rfl, ?_⟩
      have n0_ := aM (Kd.R_below (by have X_ := HO666.out; exact TR) hb)
      have n1_ := aM (Kd.R_lower ho0 (below_size TB))
      have n2_ := aM (blk_below (g := gb657) (o := .cells #[.int .i64 a0_0, .int .i64 a0_1, .int .i64 a0_2, .slice A0_3 l0_3.length c0_3] 24 (0, 0)) TK hb)
      have n3_ := aM (blk_below (g := gb658) (o := .cells #[.int .i64 a1_0, .slice A1_1 l1_1.length c1_1] 27 (0, 0)) TK hb)
      have n4_ := aM (below_step TB hb)
      clear HO666
      clear BK657
      clear BK658
      clear HB
      have HO666 := n0_
      have HO670 := n1_
      have BK657 := n2_
      have BK658 := n3_
      have HB := n4_
      clear n0_ n1_ n2_ n3_ n4_
      (try clear hb)
      (try clear hb2)
      (try clear hk)
      (try clear hi)
      (try clear ho0)
      obtain ⟨Ao28, co28, eo28⟩ := Kd.R_slice HO666.out
      (first | subst eo28 | (injection eo28 with f1_ f2_ f3_; have f4_ := f1_.symm; have f5_ := f3_.symm; clear f1_ f2_ f3_; subst f4_; subst f5_))
      obtain ⟨Ao29, co29, eo29⟩ := Kd.R_slice HO670.out
      (first | subst eo29 | (injection eo29 with f1_ f2_ f3_; have f4_ := f1_.symm; have f5_ := f3_.symm; clear f1_ f2_ f3_; subst f4_; subst f5_))
      refine hK.out _ _ ⟨(blk_cell BK657.out 0).trans rfl, (blk_cell BK657.out 1).trans rfl, (blk_cell BK657.out 2).trans rfl, (blk_cell BK657.out 3).trans rfl, (blk_cell BK658.out 0).trans rfl, (blk_cell BK658.out 1).trans rfl⟩ (fun hHeld => ?_)
      clear hK K
      refine nR ?_
      refine pO 5 (some 35) (fun K hK => ?_)
      refine gG Try.func32 #[.agg #[.int .i64 t661, .int .i64 t662, .int .i64 t663, .slice Ao28 t664.length co28], .agg #[.int .i64 t667, .slice Ao29 t668.length co29], .int .i64 a2] ?_
      with_reducible refine (spec_PieceAt.calls k t661 t662 t663 _ _ t664 t667 _ _ t668 a2 t671 t674 _ ?side1 ?side2 ?side3 ?side4 A19.out).mono ?_
      (case side1 => have X_ := (Kd.R_reads' HO666.out).2.2; exact TC)
      (case side2 => exact (Kd.R_reads' HO666.out).2.1)
      (case side3 => have X_ := (Kd.R_reads' HO670.out).2.2; exact TC)
      (case side4 => exact (Kd.R_reads' HO670.out).2.1)
      rintro e w30 ⟨v672, rfl, ho0, hb⟩
      refine ⟨_, rfl, ?_⟩
      have n0_ := aM (Kd.R_below (by have X_ := HO666.out; exact TR) hb)
      have n1_ := aM (Kd.R_elder' (by have X_ := HO670.out; exact TR) (Kd.R_base ho0) hb)
      have n2_ := aM (Kd.R_lower (Kd.R_new' ho0 (Kd.R_lt (by have X_ := HO670.out; exact TR))) (below_size TB))
      have n3_ := aM (blk_below (g := gb657) (o := .cells #[.int .i64 a0_0, .int .i64 a0_1, .int .i64 a0_2, .slice A0_3 l0_3.length c0_3] 24 (0, 0)) TK hb)
      have n4_ := aM (blk_below (g := gb658) (o := .cells #[.int .i64 a1_0, .slice A1_1 l1_1.length c1_1] 27 (0, 0)) TK hb)
      have n5_ := aM (below_step TB hb)
      clear HO666
      clear HO670
      clear BK657
      clear BK658
      clear HB
      have HO666 := n0_
      have HO670 := n1_
      have HO673 := n2_
      have BK657 := n3_
      have BK658 := n4_
      have HB := n5_
      clear n0_ n1_ n2_ n3_ n4_ n5_
      (try clear hb)
      (try clear hb2)
      (try clear hk)
      (try clear hi)
      (try clear ho0)
      refine hK.out _ _ ⟨(blk_cell BK657.out 0).trans rfl, (blk_cell BK657.out 1).trans rfl, (blk_cell BK657.out 2).trans rfl, (blk_cell BK657.out 3).trans rfl, (blk_cell BK658.out 0).trans rfl, (blk_cell BK658.out 1).trans rfl⟩ (fun hHeld => ?_)
      clear hK K
      refine nR ?_
      refine pP 6 (some 29) ?_
      refine pP 7 (some 36) ?_
      refine pP 8 (some 37) ?_
      refine pP 9 (some 8) ?_
      refine pP 10 (some 9) ?_
      refine done_ (done_of HT_.out (by kernel_rfl)) ?_
      have hnb31 := NB657_658.out
      have hnc31 := NB658_657.out
      obtain ⟨hcz32_0, hcz32_1, hcz32_2, hcz32_3⟩ := cz4 BK657.out
      obtain ⟨hfz32_0, hfz32_1, hfz32_2, hfz32_3⟩ := fz4 BK657.out
      go_upto_region 12 with (first | ((with_reducible refine gate_callee (f := 14) rfl ?_); refine gL (some 39) Try.func14 #[.agg #[.int .i64 a0_0, .int .i64 a0_1, .int .i64 a0_2, .slice A0_3 l0_3.length c0_3]] ?_; (with_reducible refine (laws_toManifest.calls k a0_0 a0_1 a0_2 _ _ l0_3 t675 t676 t677 t678 _ ?side1 ?side2 A20.out).mono ?_); (case side1 => have X_ := (Kd.C_below HR0_3.out HB.out); exact TC); (case side2 => exact HC0_3.out); rintro e w33 ⟨v679, rfl, ho0, hb⟩; refine ⟨_, rfl, ?_⟩; have HO680 := aM (Kd.R_lower (Kd.R_new' ho0 (Kd.R_lt (by have X_ := HO666.out; exact TR))) (below_size TB)); replace HO666 := aM (Kd.R_elder' (by have X_ := HO666.out; exact TR) (Kd.R_base ho0) hb); replace HO670 := aM (Kd.R_below (by have X_ := HO670.out; exact TR) hb); replace HO673 := aM (Kd.R_below (by have X_ := HO673.out; exact TR) hb); replace BK657 := aM (blk_below (g := gb657) (o := .cells #[.int .i64 a0_0, .int .i64 a0_1, .int .i64 a0_2, .slice A0_3 l0_3.length c0_3] 24 (0, 0)) TK hb); replace BK658 := aM (blk_below (g := gb658) (o := .cells #[.int .i64 a1_0, .slice A1_1 l1_1.length c1_1] 27 (0, 0)) TK hb); replace HB := aM (below_step TB hb); clear ho0 hb) | ((with_reducible refine gate_dst (N := 10) rfl ?_); refine gBx 10 #[.int .i64 0, .int .i64 0, .int .i64 0, .slice none 0 0] 33 ?_; intro gb681 hg w34 hbox hb; have BK681 := aM (hbox); have GW681 := aM ((by rw [hg]; exact (below_size TB) : w.heap.size ≤ gb681)); have GE681 := aM ((by rw [hg]; exact (below_size TB) : w.heap.size ≤ gb681)); have NB657_681 := aM ((by rw [hg]; exact Nat.ne_of_lt (blk_lt (g := gb657) (o := .cells #[.int .i64 a0_0, .int .i64 a0_1, .int .i64 a0_2, .slice A0_3 l0_3.length c0_3] 24 (0, 0)) TK) : gb657 ≠ gb681)); have NB681_657 := aM ((by rw [hg]; exact Nat.ne_of_gt (blk_lt (g := gb657) (o := .cells #[.int .i64 a0_0, .int .i64 a0_1, .int .i64 a0_2, .slice A0_3 l0_3.length c0_3] 24 (0, 0)) TK) : gb681 ≠ gb657)); have NB658_681 := aM ((by rw [hg]; exact Nat.ne_of_lt (blk_lt (g := gb658) (o := .cells #[.int .i64 a1_0, .slice A1_1 l1_1.length c1_1] 27 (0, 0)) TK) : gb658 ≠ gb681)); have NB681_658 := aM ((by rw [hg]; exact Nat.ne_of_gt (blk_lt (g := gb658) (o := .cells #[.int .i64 a1_0, .slice A1_1 l1_1.length c1_1] 27 (0, 0)) TK) : gb681 ≠ gb658)); replace HO666 := aM (Kd.R_below (by have X_ := HO666.out; exact TR) hb); replace HO670 := aM (Kd.R_below (by have X_ := HO670.out; exact TR) hb); replace HO673 := aM (Kd.R_below (by have X_ := HO673.out; exact TR) hb); replace HO680 := aM (Kd.R_below (by have X_ := HO680.out; exact TR) hb); replace BK657 := aM (blk_below (g := gb657) (o := .cells #[.int .i64 a0_0, .int .i64 a0_1, .int .i64 a0_2, .slice A0_3 l0_3.length c0_3] 24 (0, 0)) TK hb); replace BK658 := aM (blk_below (g := gb658) (o := .cells #[.int .i64 a1_0, .slice A1_1 l1_1.length c1_1] 27 (0, 0)) TK hb); replace HB := aM (below_step TB hb); clear hb hbox hg; have hnb35 := NB681_657.out; have hnc35 := NB657_681.out; have hnb36 := NB681_658.out; have hnc36 := NB658_681.out; obtain ⟨hcz37_0, hcz37_1, hcz37_2, hcz37_3⟩ := cz4 BK681.out; obtain ⟨hfz37_0, hfz37_1, hfz37_2, hfz37_3⟩ := fz4 BK681.out; obtain ⟨Ao38, co38, eo38⟩ := Kd.R_slice HO680.out; subst eo38; obtain ⟨hcz39_0, hcz39_1⟩ := cz2 BK658.out; obtain ⟨hfz39_0, hfz39_1⟩ := fz2 BK658.out) | ((with_reducible refine gate_callee (f := 15) rfl ?_); refine gL (some 41) Try.func15 #[.agg #[.int .i64 a1_0, .slice A1_1 l1_1.length c1_1]] ?_; (with_reducible refine (laws_toBuild.calls k a1_0 _ _ l1_1 t682 t683 _ ?side1 ?side2 A21.out).mono ?_); (case side1 => exact Kd.C_below HR1_1.out TB); (case side2 => exact HC1_1.out); rintro e w40 ⟨v684, rfl, ho0, hb⟩; refine ⟨_, rfl, ?_⟩; have HO685 := aM (Kd.R_lower (Kd.R_new' (Kd.R_new' ho0 (Kd.R_lt (by (with_reducible repeat (first | apply Kd.R_alloc | apply Kd.R_drewN | apply Kd.R_drew)); exact (R_off (Kd.R_types HO670.out BK681.out (by decide)) TO)))) (Kd.R_lt (by (with_reducible repeat (first | apply Kd.R_alloc | apply Kd.R_drewN | apply Kd.R_drew)); exact (R_off (Kd.R_types HO673.out BK681.out (by decide)) TO)))) (below_size TB)); replace HO666 := aM (Kd.R_below (by (with_reducible repeat (first | apply Kd.R_alloc | apply Kd.R_drewN | apply Kd.R_drew)); exact (R_off (Kd.R_types HO666.out BK681.out (by decide)) TO)) hb); replace HO670 := aM (Kd.R_elder' (by (with_reducible repeat (first | apply Kd.R_alloc | apply Kd.R_drewN | apply Kd.R_drew)); exact (R_off (Kd.R_types HO670.out BK681.out (by decide)) TO)) (Kd.R_base ho0) hb); replace HO673 := aM (Kd.R_elder' (by (with_reducible repeat (first | apply Kd.R_alloc | apply Kd.R_drewN | apply Kd.R_drew)); exact (R_off (Kd.R_types HO673.out BK681.out (by decide)) TO)) (Kd.R_base ho0) hb); replace HO680 := aM (Kd.R_below (by (with_reducible repeat (first | apply Kd.R_alloc | apply Kd.R_drewN | apply Kd.R_drew)); exact (R_off (Kd.R_types HO680.out BK681.out (by decide)) TO)) hb); replace BK657 := aM (blk_below (g := gb657) (o := .cells #[.int .i64 a0_0, .int .i64 a0_1, .int .i64 a0_2, .slice A0_3 l0_3.length c0_3] 24 (0, 0)) (by (with_reducible repeat (first | refine blk_drewN ?_ _ | refine blk_drew ?_ | refine blk_alloc ?_ _)); refine blk_far ?_ NB657_681.out _; (with_reducible repeat (first | refine blk_drewN ?_ _ | refine blk_drew ?_ | refine blk_alloc ?_ _)); refine blk_far ?_ NB657_681.out _; (with_reducible repeat (first | refine blk_drewN ?_ _ | refine blk_drew ?_ | refine blk_alloc ?_ _)); refine blk_far ?_ NB657_681.out _; (with_reducible repeat (first | refine blk_drewN ?_ _ | refine blk_drew ?_ | refine blk_alloc ?_ _)); refine blk_far ?_ NB657_681.out _; (with_reducible repeat (first | refine blk_drewN ?_ _ | refine blk_drew ?_ | refine blk_alloc ?_ _)); exact BK657.out) hb); replace BK658 := aM (blk_below (g := gb658) (o := .cells #[.int .i64 a1_0, .slice A1_1 l1_1.length c1_1] 27 (0, 0)) (by (with_reducible repeat (first | refine blk_drewN ?_ _ | refine blk_drew ?_ | refine blk_alloc ?_ _)); refine blk_far ?_ NB658_681.out _; (with_reducible repeat (first | refine blk_drewN ?_ _ | refine blk_drew ?_ | refine blk_alloc ?_ _)); refine blk_far ?_ NB658_681.out _; (with_reducible repeat (first | refine blk_drewN ?_ _ | refine blk_drew ?_ | refine blk_alloc ?_ _)); refine blk_far ?_ NB658_681.out _; (with_reducible repeat (first | refine blk_drewN ?_ _ | refine blk_drew ?_ | refine blk_alloc ?_ _)); refine blk_far ?_ NB658_681.out _; (with_reducible repeat (first | refine blk_drewN ?_ _ | refine blk_drew ?_ | refine blk_alloc ?_ _)); exact BK658.out) hb); replace BK681 := aM (blk_below (g := gb681) (o := .cells #[.int .i64 t675, .int .i64 t676, .int .i64 t677, .slice Ao38 t678.length co38] 33 (0, 0)) (by (with_reducible repeat (first | refine blk_drewN ?_ _ | refine blk_drew ?_ | refine blk_alloc ?_ _)); refine blk_put (cs := #[.int .i64 t675, .int .i64 t676, .int .i64 t677, .slice none 0 0]) ?_ 3 _ rfl; (with_reducible repeat (first | refine blk_drewN ?_ _ | refine blk_drew ?_ | refine blk_alloc ?_ _)); refine blk_put (cs := #[.int .i64 t675, .int .i64 t676, .int .i64 0, .slice none 0 0]) ?_ 2 _ rfl; (with_reducible repeat (first | refine blk_drewN ?_ _ | refine blk_drew ?_ | refine blk_alloc ?_ _)); refine blk_put (cs := #[.int .i64 t675, .int .i64 0, .int .i64 0, .slice none 0 0]) ?_ 1 _ rfl; (with_reducible repeat (first | refine blk_drewN ?_ _ | refine blk_drew ?_ | refine blk_alloc ?_ _)); refine blk_put (cs := #[.int .i64 0, .int .i64 0, .int .i64 0, .slice none 0 0]) ?_ 0 _ rfl; (with_reducible repeat (first | refine blk_drewN ?_ _ | refine blk_drew ?_ | refine blk_alloc ?_ _)); exact BK681.out) hb); replace HB := aM (below_step TB hb); clear ho0 hb) | ((with_reducible refine gate_dst (N := 11) rfl ?_); refine gBx 11 #[.int .i64 0, .slice none 0 0] 35 ?_; intro gb686 hg w41 hbox hb; have BK686 := aM (hbox); have GW686 := aM ((by rw [hg]; exact (below_size TB) : w.heap.size ≤ gb686)); have GE686 := aM ((by rw [hg]; exact (below_size TB) : w.heap.size ≤ gb686)); have NB657_686 := aM ((by rw [hg]; exact Nat.ne_of_lt (blk_lt (g := gb657) (o := .cells #[.int .i64 a0_0, .int .i64 a0_1, .int .i64 a0_2, .slice A0_3 l0_3.length c0_3] 24 (0, 0)) TK) : gb657 ≠ gb686)); have NB686_657 := aM ((by rw [hg]; exact Nat.ne_of_gt (blk_lt (g := gb657) (o := .cells #[.int .i64 a0_0, .int .i64 a0_1, .int .i64 a0_2, .slice A0_3 l0_3.length c0_3] 24 (0, 0)) TK) : gb686 ≠ gb657)); have NB658_686 := aM ((by rw [hg]; exact Nat.ne_of_lt (blk_lt (g := gb658) (o := .cells #[.int .i64 a1_0, .slice A1_1 l1_1.length c1_1] 27 (0, 0)) TK) : gb658 ≠ gb686)); have NB686_658 := aM ((by rw [hg]; exact Nat.ne_of_gt (blk_lt (g := gb658) (o := .cells #[.int .i64 a1_0, .slice A1_1 l1_1.length c1_1] 27 (0, 0)) TK) : gb686 ≠ gb658)); have NB681_686 := aM ((by rw [hg]; exact Nat.ne_of_lt (blk_lt (g := gb681) (o := .cells #[.int .i64 t675, .int .i64 t676, .int .i64 t677, .slice Ao38 t678.length co38] 33 (0, 0)) TK) : gb681 ≠ gb686)); have NB686_681 := aM ((by rw [hg]; exact Nat.ne_of_gt (blk_lt (g := gb681) (o := .cells #[.int .i64 t675, .int .i64 t676, .int .i64 t677, .slice Ao38 t678.length co38] 33 (0, 0)) TK) : gb686 ≠ gb681)); replace HO666 := aM (Kd.R_below (by have X_ := HO666.out; exact TR) hb); replace HO670 := aM (Kd.R_below (by have X_ := HO670.out; exact TR) hb); replace HO673 := aM (Kd.R_below (by have X_ := HO673.out; exact TR) hb); replace HO680 := aM (Kd.R_below (by have X_ := HO680.out; exact TR) hb); replace HO685 := aM (Kd.R_below (by have X_ := HO685.out; exact TR) hb); replace BK657 := aM (blk_below (g := gb657) (o := .cells #[.int .i64 a0_0, .int .i64 a0_1, .int .i64 a0_2, .slice A0_3 l0_3.length c0_3] 24 (0, 0)) TK hb); replace BK658 := aM (blk_below (g := gb658) (o := .cells #[.int .i64 a1_0, .slice A1_1 l1_1.length c1_1] 27 (0, 0)) TK hb); replace BK681 := aM (blk_below (g := gb681) (o := .cells #[.int .i64 t675, .int .i64 t676, .int .i64 t677, .slice Ao38 t678.length co38] 33 (0, 0)) TK hb); replace HB := aM (below_step TB hb); clear hb hbox hg; have hnb42 := NB686_657.out; have hnc42 := NB657_686.out; have hnb43 := NB686_658.out; have hnc43 := NB658_686.out; have hnb44 := NB686_681.out; have hnc44 := NB681_686.out; obtain ⟨hcz45_0, hcz45_1⟩ := cz2 BK686.out; obtain ⟨hfz45_0, hfz45_1⟩ := fz2 BK686.out; obtain ⟨Ao46, co46, eo46⟩ := Kd.R_slice HO685.out; subst eo46; obtain ⟨hcz47_0, hcz47_1, hcz47_2, hcz47_3⟩ := cz4 BK681.out; obtain ⟨hfz47_0, hfz47_1, hfz47_2, hfz47_3⟩ := fz4 BK681.out) | ((with_reducible refine gate_callee (f := 33) rfl ?_); refine gL (some 46) Try.func33 #[.agg #[.int .i64 t675, .int .i64 t676, .int .i64 t677, .slice Ao38 t678.length co38], .agg #[.int .i64 t682, .slice Ao46 t683.length co46], .int .i64 a2] ?_; (with_reducible refine (impl_PieceAt.calls k t675 t676 t677 _ _ t678 t682 _ _ t683 a2 t687 t690 _ ?side1 ?side2 ?side3 ?side4 A22.out).mono ?_); (case side1 => refine (Kd.R_reads' (e := 72) (base := w.heap.size) (ok := fun k_ => (True ∧ some k_ ≠ (.slice Ao28 t664.length co28 : Value).ownBlock)) (n := t678.length) (c := co38) ?_).2.2; exact (by (with_reducible repeat (first | apply Kd.R_alloc | apply Kd.R_drewN | apply Kd.R_drew)); exact (R_off (Kd.R_types HO680.out BK686.out (by decide)) TO))); (case side2 => exact (Kd.R_reads' HO680.out).2.1); (case side3 => refine (Kd.R_reads' (e := 5) (base := w.heap.size) (ok := fun k_ => ((True ∧ some k_ ≠ (.slice Ao29 t668.length co29 : Value).ownBlock) ∧ some k_ ≠ (v672 : Value).ownBlock)) (n := t683.length) (c := co46) ?_).2.2; exact (by (with_reducible repeat (first | apply Kd.R_alloc | apply Kd.R_drewN | apply Kd.R_drew)); exact (R_off (Kd.R_types HO685.out BK686.out (by decide)) TO))); (case side4 => exact (Kd.R_reads' HO685.out).2.1); rintro e w48 ⟨v688, rfl, ho0, hb⟩; refine ⟨_, rfl, ?_⟩; have HO689 := aM (Kd.R_lower (Kd.R_new' (Kd.R_new' (Kd.R_new' ho0 (Kd.R_lt (by (with_reducible repeat (first | apply Kd.R_alloc | apply Kd.R_drewN | apply Kd.R_drew)); exact (R_off (Kd.R_types HO670.out BK686.out (by decide)) TO)))) (Kd.R_lt (by (with_reducible repeat (first | apply Kd.R_alloc | apply Kd.R_drewN | apply Kd.R_drew)); exact (R_off (Kd.R_types HO673.out BK686.out (by decide)) TO)))) (Kd.R_lt (by (with_reducible repeat (first | apply Kd.R_alloc | apply Kd.R_drewN | apply Kd.R_drew)); exact (R_off (Kd.R_types HO685.out BK686.out (by decide)) TO)))) (below_size TB)); replace HO666 := aM (Kd.R_below (by (with_reducible repeat (first | apply Kd.R_alloc | apply Kd.R_drewN | apply Kd.R_drew)); exact (R_off (Kd.R_types HO666.out BK686.out (by decide)) TO)) hb); replace HO670 := aM (Kd.R_elder' (by (with_reducible repeat (first | apply Kd.R_alloc | apply Kd.R_drewN | apply Kd.R_drew)); exact (R_off (Kd.R_types HO670.out BK686.out (by decide)) TO)) (Kd.R_base ho0) hb); replace HO673 := aM (Kd.R_elder' (by (with_reducible repeat (first | apply Kd.R_alloc | apply Kd.R_drewN | apply Kd.R_drew)); exact (R_off (Kd.R_types HO673.out BK686.out (by decide)) TO)) (Kd.R_base ho0) hb); replace HO680 := aM (Kd.R_below (by (with_reducible repeat (first | apply Kd.R_alloc | apply Kd.R_drewN | apply Kd.R_drew)); exact (R_off (Kd.R_types HO680.out BK686.out (by decide)) TO)) hb); replace HO685 := aM (Kd.R_elder' (by (with_reducible repeat (first | apply Kd.R_alloc | apply Kd.R_drewN | apply Kd.R_drew)); exact (R_off (Kd.R_types HO685.out BK686.out (by decide)) TO)) (Kd.R_base ho0) hb); replace BK657 := aM (blk_below (g := gb657) (o := .cells #[.int .i64 a0_0, .int .i64 a0_1, .int .i64 a0_2, .slice A0_3 l0_3.length c0_3] 24 (0, 0)) (by (with_reducible repeat (first | refine blk_drewN ?_ _ | refine blk_drew ?_ | refine blk_alloc ?_ _)); refine blk_far ?_ NB657_686.out _; (with_reducible repeat (first | refine blk_drewN ?_ _ | refine blk_drew ?_ | refine blk_alloc ?_ _)); refine blk_far ?_ NB657_686.out _; (with_reducible repeat (first | refine blk_drewN ?_ _ | refine blk_drew ?_ | refine blk_alloc ?_ _)); exact BK657.out) hb); replace BK658 := aM (blk_below (g := gb658) (o := .cells #[.int .i64 a1_0, .slice A1_1 l1_1.length c1_1] 27 (0, 0)) (by (with_reducible repeat (first | refine blk_drewN ?_ _ | refine blk_drew ?_ | refine blk_alloc ?_ _)); refine blk_far ?_ NB658_686.out _; (with_reducible repeat (first | refine blk_drewN ?_ _ | refine blk_drew ?_ | refine blk_alloc ?_ _)); refine blk_far ?_ NB658_686.out _; (with_reducible repeat (first | refine blk_drewN ?_ _ | refine blk_drew ?_ | refine blk_alloc ?_ _)); exact BK658.out) hb); replace BK681 := aM (blk_below (g := gb681) (o := .cells #[.int .i64 t675, .int .i64 t676, .int .i64 t677, .slice Ao38 t678.length co38] 33 (0, 0)) (by (with_reducible repeat (first | refine blk_drewN ?_ _ | refine blk_drew ?_ | refine blk_alloc ?_ _)); refine blk_far ?_ NB681_686.out _; (with_reducible repeat (first | refine blk_drewN ?_ _ | refine blk_drew ?_ | refine blk_alloc ?_ _)); refine blk_far ?_ NB681_686.out _; (with_reducible repeat (first | refine blk_drewN ?_ _ | refine blk_drew ?_ | refine blk_alloc ?_ _)); exact BK681.out) hb); replace BK686 := aM (blk_below (g := gb686) (o := .cells #[.int .i64 t682, .slice Ao46 t683.length co46] 35 (0, 0)) (by (with_reducible repeat (first | refine blk_drewN ?_ _ | refine blk_drew ?_ | refine blk_alloc ?_ _)); refine blk_put (cs := #[.int .i64 t682, .slice none 0 0]) ?_ 1 _ rfl; (with_reducible repeat (first | refine blk_drewN ?_ _ | refine blk_drew ?_ | refine blk_alloc ?_ _)); refine blk_put (cs := #[.int .i64 0, .slice none 0 0]) ?_ 0 _ rfl; (with_reducible repeat (first | refine blk_drewN ?_ _ | refine blk_drew ?_ | refine blk_alloc ?_ _)); exact BK686.out) hb); replace HB := aM (below_step TB hb); clear ho0 hb))
      (try simp only [Act.put, List.setIfInBounds_toArray, List.set_cons_zero, List.set_cons_succ])
      go_cut [57] (fun v57 wc => ∃ (kq : Nat) (x57_22 : Bool), v57 = .bool x57_22 ∧ Aside0 (laws_FnExactPieceAt.j0 kq a2 t671 t674 t687 t690 x57_22 a0_0 a0_1 a0_2 l0_3 a1_0 l1_1 t675 t676 t677 t678 t682 t683 = some r) ∧ Aside0 (kq ≤ k) ∧ Aside0 (Kd.R (Kd.int .u8) 5 wc w.heap.size (fun k_ => some k_ ≠ (v688 : Value).ownBlock ∧ some k_ ≠ ((.slice Ao46 t683.length co46) : Value).ownBlock) v672 t671) ∧ Aside0 (Kd.R (Kd.int .u8) 5 wc w.heap.size (fun k_ => some k_ ≠ (v672 : Value).ownBlock ∧ some k_ ≠ ((.slice Ao46 t683.length co46) : Value).ownBlock) v688 t687) ∧ Aside0 (Kd.R k72 72 wc w.heap.size (fun _ => True) (.slice Ao38 t678.length co38) t678) ∧ Aside0 (Kd.R (Kd.int .u8) 5 wc w.heap.size (fun k_ => some k_ ≠ (v672 : Value).ownBlock ∧ some k_ ≠ (v688 : Value).ownBlock) (.slice Ao46 t683.length co46) t683) ∧ Aside0 (wc.heap[gb657]? = some (.cells #[.int .i64 a0_0, .int .i64 a0_1, .int .i64 a0_2, (.slice A0_3 l0_3.length c0_3)] 24 (0, 0))) ∧ Aside0 (wc.heap[gb658]? = some (.cells #[.int .i64 a1_0, (.slice A1_1 l1_1.length c1_1)] 27 (0, 0))) ∧ Aside0 (wc.heap[gb681]? = some (.cells #[.int .i64 t675, .int .i64 t676, .int .i64 t677, (.slice Ao38 t678.length co38)] 33 (0, 0))) ∧ Aside0 (wc.heap[gb686]? = some (.cells #[.int .i64 t682, (.slice Ao46 t683.length co46)] 35 (0, 0))) ∧ Aside0 (Below w.heap.size w wc))
      case first =>
        have H := HC23.out
        clear HC23
        replace H := bE H
        obtain ⟨t691, A49, H⟩ := H
        by_cases c50 : t691 = true
        · subst c50
          replace H := ifT H
          have H' := aM H
          clear H
          obtain ⟨Ao51, co51, eo51⟩ := Kd.R_slice HO689.out
          subst eo51
          obtain ⟨Ao52, co52, eo52⟩ := Kd.R_slice HO673.out
          subst eo52
          go_wp2_with (first | ((with_reducible refine gate_callee (f := 27) rfl ?_); refine gL (some 51) Try.func27 #[.slice Ao51 t687.length co51, .slice Ao52 t671.length co52] ?_; (with_reducible refine (laws_eqByteS.calls k _ _ t687 _ _ t671 true _ ?side1 ?side2 ?side3 ?side4 A49.out).mono ?_); (case side1 => have X_ := (Kd.R_reads' HO689.out).2.2; exact TC); (case side2 => exact (Kd.R_reads' HO689.out).2.1); (case side3 => have X_ := (Kd.R_reads' HO673.out).2.2; exact TC); (case side4 => exact (Kd.R_reads' HO673.out).2.1); rintro e w' ⟨rfl, ⟨nd, rfl⟩⟩; refine ⟨_, rfl, ?_⟩))
          go_meet
          case rel => exact ⟨_, ((t690 != t674)), (by first | rfl | (simp; done) | (simp [*]; done)), H', ⟨by first | omega | exact Nat.le_refl _⟩, ⟨by (with_reducible repeat (first | apply Kd.R_alloc | apply Kd.R_drewN | apply Kd.R_drew)); exact Kd.R_mono HO673.out (fun _ hk => ⟨hk.2, hk.1.2⟩)⟩, ⟨by (with_reducible repeat (first | apply Kd.R_alloc | apply Kd.R_drewN | apply Kd.R_drew)); exact Kd.R_mono HO689.out (fun _ hk => ⟨hk.1.2, hk.2⟩)⟩, ⟨by (with_reducible repeat (first | apply Kd.R_alloc | apply Kd.R_drewN | apply Kd.R_drew)); exact Kd.R_mono HO680.out (fun _ hk => trivial)⟩, ⟨by (with_reducible repeat (first | apply Kd.R_alloc | apply Kd.R_drewN | apply Kd.R_drew)); exact Kd.R_mono HO685.out (fun _ hk => ⟨hk.1.2, hk.2⟩)⟩, ⟨TK⟩, ⟨TK⟩, ⟨TK⟩, ⟨TK⟩, ⟨TB⟩⟩
        · replace c50 := Bool.eq_false_iff.mpr c50
          subst c50
          replace H := ifF H
          have H' := aM H
          clear H
          obtain ⟨Ao53, co53, eo53⟩ := Kd.R_slice HO689.out
          subst eo53
          obtain ⟨Ao54, co54, eo54⟩ := Kd.R_slice HO673.out
          subst eo54
          go_wp2_with (first | ((with_reducible refine gate_callee (f := 27) rfl ?_); refine gL (some 51) Try.func27 #[.slice Ao53 t687.length co53, .slice Ao54 t671.length co54] ?_; (with_reducible refine (laws_eqByteS.calls k _ _ t687 _ _ t671 false _ ?side1 ?side2 ?side3 ?side4 A49.out).mono ?_); (case side1 => have X_ := (Kd.R_reads' HO689.out).2.2; exact TC); (case side2 => exact (Kd.R_reads' HO689.out).2.1); (case side3 => have X_ := (Kd.R_reads' HO673.out).2.2; exact TC); (case side4 => exact (Kd.R_reads' HO673.out).2.1); rintro e w' ⟨rfl, ⟨nd, rfl⟩⟩; refine ⟨_, rfl, ?_⟩))
          go_meet
          case rel => exact ⟨_, (true), (by first | rfl | (simp; done) | (simp [*]; done)), H', ⟨by first | omega | exact Nat.le_refl _⟩, ⟨by (with_reducible repeat (first | apply Kd.R_alloc | apply Kd.R_drewN | apply Kd.R_drew)); exact Kd.R_mono HO673.out (fun _ hk => ⟨hk.2, hk.1.2⟩)⟩, ⟨by (with_reducible repeat (first | apply Kd.R_alloc | apply Kd.R_drewN | apply Kd.R_drew)); exact Kd.R_mono HO689.out (fun _ hk => ⟨hk.1.2, hk.2⟩)⟩, ⟨by (with_reducible repeat (first | apply Kd.R_alloc | apply Kd.R_drewN | apply Kd.R_drew)); exact Kd.R_mono HO680.out (fun _ hk => trivial)⟩, ⟨by (with_reducible repeat (first | apply Kd.R_alloc | apply Kd.R_drewN | apply Kd.R_drew)); exact Kd.R_mono HO685.out (fun _ hk => ⟨hk.1.2, hk.2⟩)⟩, ⟨TK⟩, ⟨TK⟩, ⟨TK⟩, ⟨TK⟩, ⟨TB⟩⟩
      case rest =>
        clear HC23
        try clear c1
        try clear c2
        try clear p2
        try clear c3
        try clear c4
        try clear c5
        try clear c7
        try clear c8
        try clear c9
        try clear c9b0
        try clear c11
        try clear c12
        try clear c13
        try clear c14
        try clear c15
        try clear c15b0
        try clear c27
        try clear c31
        try clear c32
        try clear c33
        try clear c35
        try clear c36
        try clear c42
        try clear c43
        try clear c44
        try clear c50
        try clear hcz14_0
        try clear hcz14_1
        try clear hcz32_0
        try clear hcz32_1
        try clear hcz32_2
        try clear hcz32_3
        try clear hcz37_0
        try clear hcz37_1
        try clear hcz37_2
        try clear hcz37_3
        try clear hcz39_0
        try clear hcz39_1
        try clear hcz45_0
        try clear hcz45_1
        try clear hcz47_0
        try clear hcz47_1
        try clear hcz47_2
        try clear hcz47_3
        try clear hcz8_0
        try clear hcz8_1
        try clear hcz8_2
        try clear hcz8_3
        try clear hfz14_0
        try clear hfz14_1
        try clear hfz32_0
        try clear hfz32_1
        try clear hfz32_2
        try clear hfz32_3
        try clear hfz37_0
        try clear hfz37_1
        try clear hfz37_2
        try clear hfz37_3
        try clear hfz39_0
        try clear hfz39_1
        try clear hfz45_0
        try clear hfz45_1
        try clear hfz47_0
        try clear hfz47_1
        try clear hfz47_2
        try clear hfz47_3
        try clear hfz8_0
        try clear hfz8_1
        try clear hfz8_2
        try clear hfz8_3
        obtain ⟨kq, x57_22, rfl, HA, HJ22, HO_8, HO_12, HO_682003, HO_687001, BK657, BK658, BK681, BK686, HB⟩ := hcut
        cases kq with
        | zero => exact absurd HA.out (by simp [laws_FnExactPieceAt.j0])
        | succ kj22 =>
          have H := HA.out
          clear HA
          simp only [laws_FnExactPieceAt.j0] at H
          replace H := ifM H
          obtain ⟨c55, H⟩ := H
          replace c55 := Bool.eq_false_iff.mpr c55
          subst c55
          replace H := bE H
          obtain ⟨⟨t692, t693, t694, t695⟩, A56, H⟩ := H
          dsimp only at H
          replace H := bE H
          obtain ⟨t698, A57, H⟩ := H
          replace H := ifN H
          obtain ⟨c58, H⟩ := H
          subst c58
          replace H := bE H
          obtain ⟨⟨t699, t700⟩, A59, H⟩ := H
          dsimp only at H
          replace H := bE H
          obtain ⟨t703, A60, H⟩ := H
          replace H := ifN H
          obtain ⟨c61, H⟩ := H
          subst c61
          replace H := bE H
          obtain ⟨⟨t704, t705⟩, A62, H⟩ := H
          dsimp only at H
          replace H := bE H
          obtain ⟨⟨t706, t707⟩, A63, H⟩ := H
          dsimp only at H
          have HC64 := aM H
          clear H
          try go_wp2
          (try (rw [drewN_self wc]; generalize hq_ : World.drewN wc _ = wc; have n0_ : Aside0 (Kd.R (Kd.int .u8) 5 wc w.heap.size (fun k_ => (some k_ ≠ (v672 : Value).ownBlock ∧ some k_ ≠ (.slice Ao46 t683.length co46 : Value).ownBlock)) v688 t687) := ⟨by rw [← hq_]; exact (by have X_ := HO_12.out; exact TR)⟩; have n1_ : Aside0 (Kd.R k72 72 wc w.heap.size (fun _ => True) (.slice Ao38 t678.length co38) t678) := ⟨by rw [← hq_]; exact (by have X_ := HO_682003.out; exact TR)⟩; have n2_ : Aside0 (Kd.R (Kd.int .u8) 5 wc w.heap.size (fun k_ => (some k_ ≠ (v672 : Value).ownBlock ∧ some k_ ≠ (v688 : Value).ownBlock)) (.slice Ao46 t683.length co46) t683) := ⟨by rw [← hq_]; exact (by have X_ := HO_687001.out; exact TR)⟩; have n3_ : Aside0 (Kd.R (Kd.int .u8) 5 wc w.heap.size (fun k_ => (some k_ ≠ (v688 : Value).ownBlock ∧ some k_ ≠ (.slice Ao46 t683.length co46 : Value).ownBlock)) v672 t671) := ⟨by rw [← hq_]; exact (by have X_ := HO_8.out; exact TR)⟩; have n4_ : Aside0 (wc.heap[gb657]? = some (.cells #[.int .i64 a0_0, .int .i64 a0_1, .int .i64 a0_2, .slice A0_3 l0_3.length c0_3] 24 (0, 0))) := ⟨by rw [← hq_]; exact TK⟩; have n5_ : Aside0 (wc.heap[gb658]? = some (.cells #[.int .i64 a1_0, .slice A1_1 l1_1.length c1_1] 27 (0, 0))) := ⟨by rw [← hq_]; exact TK⟩; have n6_ : Aside0 (wc.heap[gb681]? = some (.cells #[.int .i64 t675, .int .i64 t676, .int .i64 t677, .slice Ao38 t678.length co38] 33 (0, 0))) := ⟨by rw [← hq_]; exact TK⟩; have n7_ : Aside0 (wc.heap[gb686]? = some (.cells #[.int .i64 t682, .slice Ao46 t683.length co46] 35 (0, 0))) := ⟨by rw [← hq_]; exact TK⟩; have n8_ : Aside0 (Below w.heap.size w wc) := ⟨by rw [← hq_]; exact TB⟩; clear HO_12 HO_682003 HO_687001 HO_8 BK657 BK658 BK681 BK686 HB hq_; have HO_12 := n0_; have HO_682003 := n1_; have HO_687001 := n2_; have HO_8 := n3_; have BK657 := n4_; have BK658 := n5_; have BK681 := n6_; have BK686 := n7_; have HB := n8_; clear n0_ n1_ n2_ n3_ n4_ n5_ n6_ n7_ n8_))
          replace HO_8 := aM (Kd.R_drew HO_8.out)
          replace HO_12 := aM (Kd.R_drew HO_12.out)
          replace HO_682003 := aM (Kd.R_drew HO_682003.out)
          replace HO_687001 := aM (Kd.R_drew HO_687001.out)
          replace BK657 := aM (blk_drew BK657.out)
          replace BK658 := aM (blk_drew BK658.out)
          replace BK681 := aM (blk_drew BK681.out)
          replace BK686 := aM (blk_drew BK686.out)
          replace HB := aM (below_drew1 HB.out)
          refine start_ (n := 5) (S := fun w' => w'.cell? ⟨gb681, 0, none⟩ = some (.int .i64 t675) ∧ w'.cell? ⟨gb681, 1, none⟩ = some (.int .i64 t676) ∧ w'.cell? ⟨gb681, 2, none⟩ = some (.int .i64 t677) ∧ w'.cell? ⟨gb681, 3, none⟩ = some (.slice Ao38 t678.length co38) ∧ w'.cell? ⟨gb657, 0, none⟩ = some (.int .i64 a0_0) ∧ w'.cell? ⟨gb657, 1, none⟩ = some (.int .i64 a0_1) ∧ w'.cell? ⟨gb657, 2, none⟩ = some (.int .i64 a0_2) ∧ w'.cell? ⟨gb657, 3, none⟩ = some (.slice A0_3 l0_3.length c0_3)) (ds := []) (Array.replicate 5 false) (by kernel_rfl) rfl rfl ⟨(blk_cell BK681.out 0).trans rfl, (blk_cell BK681.out 1).trans rfl, (blk_cell BK681.out 2).trans rfl, (blk_cell BK681.out 3).trans rfl, (blk_cell BK657.out 0).trans rfl, (blk_cell BK657.out 1).trans rfl, (blk_cell BK657.out 2).trans rfl, (blk_cell BK657.out 3).trans rfl⟩ (fun hHeld => ?_)
          generalize wc.drew = w65 at HO_8 HO_12 HO_682003 HO_687001 BK657 BK658 BK681 BK686 HB hHeld ⊢
          refine pT 0 (some 58) ?_
          refine pT 1 (some 59) ?_
          refine pO 2 (some 60) (fun K hK => ?_)
          refine gG Try.func14 #[.agg #[.int .i64 a0_0, .int .i64 a0_1, .int .i64 a0_2, .slice A0_3 l0_3.length c0_3]] ?_
          with_reducible refine (laws_toManifest.calls kj22 a0_0 a0_1 a0_2 _ _ l0_3 t692 t693 t694 t695 _ ?side1 ?side2 A56.out).mono ?_
          (case side1 => have X_ := (Kd.C_below HR0_3.out HB.out); exact TC)
          (case side2 => exact HC0_3.out)
          rintro e w66 ⟨v696, rfl, ho0, hb⟩
          refine ⟨_, rfl, ?_⟩
          have n0_ := aM (Kd.R_below (by have X_ := HO_8.out; exact TR) hb)
          have n1_ := aM (Kd.R_below (by have X_ := HO_12.out; exact TR) hb)
          have n2_ := aM (Kd.R_elder' (by have X_ := HO_682003.out; exact TR) (Kd.R_base ho0) hb)
          have n3_ := aM (Kd.R_below (by have X_ := HO_687001.out; exact TR) hb)
          have n4_ := aM (Kd.R_lower (Kd.R_new' ho0 (Kd.R_lt (by have X_ := HO_682003.out; exact TR))) (below_size TB))
          have n5_ := aM (blk_below (g := gb657) (o := .cells #[.int .i64 a0_0, .int .i64 a0_1, .int .i64 a0_2, .slice A0_3 l0_3.length c0_3] 24 (0, 0)) TK hb)
          have n6_ := aM (blk_below (g := gb658) (o := .cells #[.int .i64 a1_0, .slice A1_1 l1_1.length c1_1] 27 (0, 0)) TK hb)
          have n7_ := aM (blk_below (g := gb681) (o := .cells #[.int .i64 t675, .int .i64 t676, .int .i64 t677, .slice Ao38 t678.length co38] 33 (0, 0)) TK hb)
          have n8_ := aM (blk_below (g := gb686) (o := .cells #[.int .i64 t682, .slice Ao46 t683.length co46] 35 (0, 0)) TK hb)
          have n9_ := aM (below_step TB hb)
          clear HO_8
          clear HO_12
          clear HO_682003
          clear HO_687001
          clear BK657
          clear BK658
          clear BK681
          clear BK686
          clear HB
          have HO_8 := n0_
          have HO_12 := n1_
          have HO_682003 := n2_
          have HO_687001 := n3_
          have HO697 := n4_
          have BK657 := n5_
          have BK658 := n6_
          have BK681 := n7_
          have BK686 := n8_
          have HB := n9_
          clear n0_ n1_ n2_ n3_ n4_ n5_ n6_ n7_ n8_ n9_
          (try clear hb)
          (try clear hb2)
          (try clear hk)
          (try clear hi)
          (try clear ho0)
          obtain ⟨Ao67, co67, eo67⟩ := Kd.R_slice HO697.out
          (first | subst eo67 | (injection eo67 with f1_ f2_ f3_; have f4_ := f1_.symm; have f5_ := f3_.symm; clear f1_ f2_ f3_; subst f4_; subst f5_))
          refine hK.out _ _ ⟨(blk_cell BK681.out 0).trans rfl, (blk_cell BK681.out 1).trans rfl, (blk_cell BK681.out 2).trans rfl, (blk_cell BK681.out 3).trans rfl, (blk_cell BK657.out 0).trans rfl, (blk_cell BK657.out 1).trans rfl, (blk_cell BK657.out 2).trans rfl, (blk_cell BK657.out 3).trans rfl⟩ (fun hHeld => ?_)
          clear hK K
          refine nR ?_
          refine pO 3 (some 61) (fun K hK => ?_)
          refine gG Try.func17 #[.agg #[.int .i64 t675, .int .i64 t676, .int .i64 t677, .slice Ao38 t678.length co38], .agg #[.int .i64 t692, .int .i64 t693, .int .i64 t694, .slice Ao67 t695.length co67]] ?_
          with_reducible refine (laws_eqManifest.calls kj22 t675 t676 t677 _ _ t678 t692 t693 t694 _ _ t695 true _ ?side1 ?side2 ?side3 ?side4 A57.out).mono ?_
          (case side1 => have X_ := (Kd.R_reads' HO_682003.out).2.2; exact TC)
          (case side2 => exact (Kd.R_reads' HO_682003.out).2.1)
          (case side3 => have X_ := (Kd.R_reads' HO697.out).2.2; exact TC)
          (case side4 => exact (Kd.R_reads' HO697.out).2.1)
          rintro e w68 ⟨rfl, hb⟩
          refine ⟨_, rfl, ?_⟩
          have n0_ := aM (Kd.R_below (by have X_ := HO_8.out; exact TR) hb)
          have n1_ := aM (Kd.R_below (by have X_ := HO_12.out; exact TR) hb)
          have n2_ := aM (Kd.R_below (by have X_ := HO_682003.out; exact TR) hb)
          have n3_ := aM (Kd.R_below (by have X_ := HO_687001.out; exact TR) hb)
          have n4_ := aM (Kd.R_below (by have X_ := HO697.out; exact TR) hb)
          have n5_ := aM (blk_below (g := gb657) (o := .cells #[.int .i64 a0_0, .int .i64 a0_1, .int .i64 a0_2, .slice A0_3 l0_3.length c0_3] 24 (0, 0)) TK hb)
          have n6_ := aM (blk_below (g := gb658) (o := .cells #[.int .i64 a1_0, .slice A1_1 l1_1.length c1_1] 27 (0, 0)) TK hb)
          have n7_ := aM (blk_below (g := gb681) (o := .cells #[.int .i64 t675, .int .i64 t676, .int .i64 t677, .slice Ao38 t678.length co38] 33 (0, 0)) TK hb)
          have n8_ := aM (blk_below (g := gb686) (o := .cells #[.int .i64 t682, .slice Ao46 t683.length co46] 35 (0, 0)) TK hb)
          have n9_ := aM (below_step TB hb)
          clear HO_8
          clear HO_12
          clear HO_682003
          clear HO_687001
          clear HO697
          clear BK657
          clear BK658
          clear BK681
          clear BK686
          clear HB
          have HO_8 := n0_
          have HO_12 := n1_
          have HO_682003 := n2_
          have HO_687001 := n3_
          have HO697 := n4_
          have BK657 := n5_
          have BK658 := n6_
          have BK681 := n7_
          have BK686 := n8_
          have HB := n9_
          clear n0_ n1_ n2_ n3_ n4_ n5_ n6_ n7_ n8_ n9_
          (try clear hb)
          (try clear hb2)
          (try clear hk)
          (try clear hi)
          refine hK.out _ _ ⟨(blk_cell BK681.out 0).trans rfl, (blk_cell BK681.out 1).trans rfl, (blk_cell BK681.out 2).trans rfl, (blk_cell BK681.out 3).trans rfl, (blk_cell BK657.out 0).trans rfl, (blk_cell BK657.out 1).trans rfl, (blk_cell BK657.out 2).trans rfl, (blk_cell BK657.out 3).trans rfl⟩ (fun hHeld => ?_)
          clear hK K
          refine nR ?_
          refine pP 4 (some 62) ?_
          refine done_ (by kernel_rfl) ?_
          try go_wp2
          replace HO_8 := aM (Kd.R_drew HO_8.out)
          replace HO_12 := aM (Kd.R_drew HO_12.out)
          replace HO_682003 := aM (Kd.R_drew HO_682003.out)
          replace HO_687001 := aM (Kd.R_drew HO_687001.out)
          replace HO697 := aM (Kd.R_drew HO697.out)
          replace BK657 := aM (blk_drew BK657.out)
          replace BK658 := aM (blk_drew BK658.out)
          replace BK681 := aM (blk_drew BK681.out)
          replace BK686 := aM (blk_drew BK686.out)
          replace HB := aM (below_drew1 HB.out)
          refine start_ (n := 5) (S := fun w' => w'.cell? ⟨gb686, 0, none⟩ = some (.int .i64 t682) ∧ w'.cell? ⟨gb686, 1, none⟩ = some (.slice Ao46 t683.length co46) ∧ w'.cell? ⟨gb658, 0, none⟩ = some (.int .i64 a1_0) ∧ w'.cell? ⟨gb658, 1, none⟩ = some (.slice A1_1 l1_1.length c1_1)) (ds := []) (Array.replicate 5 false) (by kernel_rfl) rfl rfl ⟨(blk_cell BK686.out 0).trans rfl, (blk_cell BK686.out 1).trans rfl, (blk_cell BK658.out 0).trans rfl, (blk_cell BK658.out 1).trans rfl⟩ (fun hHeld => ?_)
          generalize w68.drew = w69 at HO_8 HO_12 HO_682003 HO_687001 HO697 BK657 BK658 BK681 BK686 HB hHeld ⊢
          refine pT 0 (some 63) ?_
          refine pT 1 (some 64) ?_
          refine pO 2 (some 65) (fun K hK => ?_)
          refine gG Try.func15 #[.agg #[.int .i64 a1_0, .slice A1_1 l1_1.length c1_1]] ?_
          with_reducible refine (laws_toBuild.calls kj22 a1_0 _ _ l1_1 t699 t700 _ ?side1 ?side2 A59.out).mono ?_
          (case side1 => have X_ := (Kd.C_below HR1_1.out HB.out); exact TC)
          (case side2 => exact HC1_1.out)
          rintro e w70 ⟨v701, rfl, ho0, hb⟩
          refine ⟨_, rfl, ?_⟩
          have n0_ := aM (Kd.R_elder' (by have X_ := HO_8.out; exact TR) (Kd.R_base ho0) hb)
          have n1_ := aM (Kd.R_elder' (by have X_ := HO_12.out; exact TR) (Kd.R_base ho0) hb)
          have n2_ := aM (Kd.R_below (by have X_ := HO_682003.out; exact TR) hb)
          have n3_ := aM (Kd.R_elder' (by have X_ := HO_687001.out; exact TR) (Kd.R_base ho0) hb)
          have n4_ := aM (Kd.R_below (by have X_ := HO697.out; exact TR) hb)
          have n5_ := aM (Kd.R_lower (Kd.R_new' (Kd.R_new' (Kd.R_new' ho0 (Kd.R_lt (by have X_ := HO_8.out; exact TR))) (Kd.R_lt (by have X_ := HO_12.out; exact TR))) (Kd.R_lt (by have X_ := HO_687001.out; exact TR))) (below_size TB))
          have n6_ := aM (blk_below (g := gb657) (o := .cells #[.int .i64 a0_0, .int .i64 a0_1, .int .i64 a0_2, .slice A0_3 l0_3.length c0_3] 24 (0, 0)) TK hb)
          have n7_ := aM (blk_below (g := gb658) (o := .cells #[.int .i64 a1_0, .slice A1_1 l1_1.length c1_1] 27 (0, 0)) TK hb)
          have n8_ := aM (blk_below (g := gb681) (o := .cells #[.int .i64 t675, .int .i64 t676, .int .i64 t677, .slice Ao38 t678.length co38] 33 (0, 0)) TK hb)
          have n9_ := aM (blk_below (g := gb686) (o := .cells #[.int .i64 t682, .slice Ao46 t683.length co46] 35 (0, 0)) TK hb)
          have n10_ := aM (below_step TB hb)
          clear HO_8
          clear HO_12
          clear HO_682003
          clear HO_687001
          clear HO697
          clear BK657
          clear BK658
          clear BK681
          clear BK686
          clear HB
          have HO_8 := n0_
          have HO_12 := n1_
          have HO_682003 := n2_
          have HO_687001 := n3_
          have HO697 := n4_
          have HO702 := n5_
          have BK657 := n6_
          have BK658 := n7_
          have BK681 := n8_
          have BK686 := n9_
          have HB := n10_
          clear n0_ n1_ n2_ n3_ n4_ n5_ n6_ n7_ n8_ n9_ n10_
          (try clear hb)
          (try clear hb2)
          (try clear hk)
          (try clear hi)
          (try clear ho0)
          obtain ⟨Ao71, co71, eo71⟩ := Kd.R_slice HO702.out
          (first | subst eo71 | (injection eo71 with f1_ f2_ f3_; have f4_ := f1_.symm; have f5_ := f3_.symm; clear f1_ f2_ f3_; subst f4_; subst f5_))
          refine hK.out _ _ ⟨(blk_cell BK686.out 0).trans rfl, (blk_cell BK686.out 1).trans rfl, (blk_cell BK658.out 0).trans rfl, (blk_cell BK658.out 1).trans rfl⟩ (fun hHeld => ?_)
          clear hK K
          refine nR ?_
          refine pO 3 (some 66) (fun K hK => ?_)
          refine gG Try.func18 #[.agg #[.int .i64 t682, .slice Ao46 t683.length co46], .agg #[.int .i64 t699, .slice Ao71 t700.length co71]] ?_
          with_reducible refine (laws_eqBuild.calls kj22 t682 _ _ t683 t699 _ _ t700 true _ ?side1 ?side2 ?side3 ?side4 A60.out).mono ?_
          (case side1 => have X_ := (Kd.R_reads' HO_687001.out).2.2; exact TC)
          (case side2 => exact (Kd.R_reads' HO_687001.out).2.1)
          (case side3 => have X_ := (Kd.R_reads' HO702.out).2.2; exact TC)
          (case side4 => exact (Kd.R_reads' HO702.out).2.1)
          rintro e w72 ⟨rfl, hb⟩
          refine ⟨_, rfl, ?_⟩
          have n0_ := aM (Kd.R_below (by have X_ := HO_8.out; exact TR) hb)
          have n1_ := aM (Kd.R_below (by have X_ := HO_12.out; exact TR) hb)
          have n2_ := aM (Kd.R_below (by have X_ := HO_682003.out; exact TR) hb)
          have n3_ := aM (Kd.R_below (by have X_ := HO_687001.out; exact TR) hb)
          have n4_ := aM (Kd.R_below (by have X_ := HO697.out; exact TR) hb)
          have n5_ := aM (Kd.R_below (by have X_ := HO702.out; exact TR) hb)
          have n6_ := aM (blk_below (g := gb657) (o := .cells #[.int .i64 a0_0, .int .i64 a0_1, .int .i64 a0_2, .slice A0_3 l0_3.length c0_3] 24 (0, 0)) TK hb)
          have n7_ := aM (blk_below (g := gb658) (o := .cells #[.int .i64 a1_0, .slice A1_1 l1_1.length c1_1] 27 (0, 0)) TK hb)
          have n8_ := aM (blk_below (g := gb681) (o := .cells #[.int .i64 t675, .int .i64 t676, .int .i64 t677, .slice Ao38 t678.length co38] 33 (0, 0)) TK hb)
          have n9_ := aM (blk_below (g := gb686) (o := .cells #[.int .i64 t682, .slice Ao46 t683.length co46] 35 (0, 0)) TK hb)
          have n10_ := aM (below_step TB hb)
          clear HO_8
          clear HO_12
          clear HO_682003
          clear HO_687001
          clear HO697
          clear HO702
          clear BK657
          clear BK658
          clear BK681
          clear BK686
          clear HB
          have HO_8 := n0_
          have HO_12 := n1_
          have HO_682003 := n2_
          have HO_687001 := n3_
          have HO697 := n4_
          have HO702 := n5_
          have BK657 := n6_
          have BK658 := n7_
          have BK681 := n8_
          have BK686 := n9_
          have HB := n10_
          clear n0_ n1_ n2_ n3_ n4_ n5_ n6_ n7_ n8_ n9_ n10_
          (try clear hb)
          (try clear hb2)
          (try clear hk)
          (try clear hi)
          refine hK.out _ _ ⟨(blk_cell BK686.out 0).trans rfl, (blk_cell BK686.out 1).trans rfl, (blk_cell BK658.out 0).trans rfl, (blk_cell BK658.out 1).trans rfl⟩ (fun hHeld => ?_)
          clear hK K
          refine nR ?_
          refine pP 4 (some 67) ?_
          refine done_ (by kernel_rfl) ?_
          have hnb73 := NB681_657.out
          have hnc73 := NB657_681.out
          have hnb74 := NB681_658.out
          have hnc74 := NB658_681.out
          have hnb75 := NB681_686.out
          have hnc75 := NB686_681.out
          obtain ⟨hcz76_0, hcz76_1, hcz76_2, hcz76_3⟩ := cz4 BK681.out
          obtain ⟨hfz76_0, hfz76_1, hfz76_2, hfz76_3⟩ := fz4 BK681.out
          go_upto_region 21 with (first | ((with_reducible refine gate_callee (f := 21) rfl ?_); refine gL (some 70) Try.func21 #[.agg #[.int .i64 t675, .int .i64 t676, .int .i64 t677, .slice Ao38 t678.length co38], .int .i64 1] ?_; (with_reducible refine (laws_markManifest.calls kj22 t675 t676 t677 (fun k_ => some k_ = (.slice Ao38 t678.length co38 : Value).ownBlock) (.slice Ao38 t678.length co38) t678 1 t704 t705 w _ ?side1 ?side2 A62.out).mono ?_); (case side1 => repeat (first | (with_reducible first | exact HB.out | apply below_alloc | apply pw_below_drewN | apply below_drew1 | refine below_set ?_ GE657.out | refine below_set ?_ GE658.out | refine below_set ?_ GE681.out | refine below_set ?_ GE686.out) | exact HB.out)); (case side2 => exact Kd.R_tight rfl HO_682003.out); rintro e w77 ⟨rfl, hy0, hb, hkp⟩; refine ⟨_, rfl, ?_⟩; replace HO_8 := aM (Kd.R_mono (ok' := fun k_ => some k_ ≠ (v688 : Value).ownBlock ∧ some k_ ≠ (.slice Ao46 t683.length co46 : Value).ownBlock ∧ some k_ ≠ (.slice Ao71 t700.length co71 : Value).ownBlock) (Kd.R_keptB ((Kd.R_apart' HO_8.out (Kd.R_typed HO_682003.out) (by decide))) hkp (fun k_ hk_ hs_ => (hk_.2) hs_)) (fun k_ hk_ => ⟨hk_.1.1.1.1, hk_.1.1.1.2, hk_.1.1.2⟩)); replace HO_12 := aM (Kd.R_mono (ok' := fun k_ => some k_ ≠ (v672 : Value).ownBlock ∧ some k_ ≠ (.slice Ao46 t683.length co46 : Value).ownBlock ∧ some k_ ≠ (.slice Ao71 t700.length co71 : Value).ownBlock) (Kd.R_keptB ((Kd.R_apart' HO_12.out (Kd.R_typed HO_682003.out) (by decide))) hkp (fun k_ hk_ hs_ => (hk_.2) hs_)) (fun k_ hk_ => ⟨hk_.1.1.1.1, hk_.1.1.1.2, hk_.1.1.2⟩)); replace HO_687001 := aM (Kd.R_mono (ok' := fun k_ => some k_ ≠ (v672 : Value).ownBlock ∧ some k_ ≠ (v688 : Value).ownBlock ∧ some k_ ≠ (.slice Ao71 t700.length co71 : Value).ownBlock) (Kd.R_keptB ((Kd.R_apart' HO_687001.out (Kd.R_typed HO_682003.out) (by decide))) hkp (fun k_ hk_ hs_ => (hk_.2) hs_)) (fun k_ hk_ => ⟨hk_.1.1.1.1, hk_.1.1.1.2, hk_.1.1.2⟩)); replace BK657 := aM (blk_kept TK hkp (fun hs_ => (fun e_ => (Kd.R_ne HO_682003.out BK657.out (by decide)) e_) hs_)); replace BK658 := aM (blk_kept TK hkp (fun hs_ => (fun e_ => (Kd.R_ne HO_682003.out BK658.out (by decide)) e_) hs_)); replace BK681 := aM (blk_kept TK hkp (fun hs_ => (fun e_ => (Kd.R_ne HO_682003.out BK681.out (by decide)) e_) hs_)); replace BK686 := aM (blk_kept TK hkp (fun hs_ => (fun e_ => (Kd.R_ne HO_682003.out BK686.out (by decide)) e_) hs_)); replace HO697 := aM (Kd.R_mono (ok' := fun k_ => some k_ ≠ (.slice Ao38 t678.length co38 : Value).ownBlock) (Kd.R_keptB (HO697.out) hkp (fun k_ hk_ hs_ => (hk_.2) hs_)) (fun k_ hk_ => hk_.1.2)); replace HO702 := aM (Kd.R_mono (ok' := fun k_ => some k_ ≠ (v672 : Value).ownBlock ∧ some k_ ≠ (v688 : Value).ownBlock ∧ some k_ ≠ (.slice Ao46 t683.length co46 : Value).ownBlock) (Kd.R_keptB ((Kd.R_apart' HO702.out (Kd.R_typed HO_682003.out) (by decide))) hkp (fun k_ hk_ hs_ => (hk_.2) hs_)) (fun k_ hk_ => ⟨hk_.1.1.1.1.2, hk_.1.1.1.2, hk_.1.1.2⟩)); replace HO_682003 := aM (Kd.R_reok rfl hy0 (fun k_ e_ => HO_682003.out.1 k_ e_)); replace HB := aM (hb); clear hb; (try clear hkp); (try clear hy0); have hnb78 := NB686_657.out; have hnc78 := NB657_686.out; have hnb79 := NB686_658.out; have hnc79 := NB658_686.out; obtain ⟨hcz80_0, hcz80_1⟩ := cz2 BK686.out; obtain ⟨hfz80_0, hfz80_1⟩ := fz2 BK686.out) | ((with_reducible refine gate_callee (f := 22) rfl ?_); refine gL (some 73) Try.func22 #[.agg #[.int .i64 t682, .slice Ao46 t683.length co46], .int .i64 t704] ?_; (with_reducible refine (laws_markBuild.calls kj22 t682 (fun k_ => some k_ = (.slice Ao46 t683.length co46 : Value).ownBlock) (.slice Ao46 t683.length co46) t683 t704 t706 t707 w _ ?side1 ?side2 A63.out).mono ?_); (case side1 => repeat (first | (with_reducible first | exact HB.out | apply below_alloc | apply pw_below_drewN | apply below_drew1 | refine below_set ?_ GE657.out | refine below_set ?_ GE658.out | refine below_set ?_ GE681.out | refine below_set ?_ GE686.out) | exact HB.out)); (case side2 => exact Kd.R_tight rfl HO_687001.out); rintro e w81 ⟨rfl, hy0, hb, hkp⟩; refine ⟨_, rfl, ?_⟩; replace HO_8 := aM (Kd.R_mono (ok' := fun k_ => some k_ ≠ (v688 : Value).ownBlock ∧ some k_ ≠ (.slice Ao46 t683.length co46 : Value).ownBlock ∧ some k_ ≠ (.slice Ao71 t700.length co71 : Value).ownBlock) (Kd.R_keptB (HO_8.out) hkp (fun k_ hk_ hs_ => (hk_.2.1) hs_)) (fun k_ hk_ => ⟨hk_.1.1, hk_.1.2.1, hk_.1.2.2⟩)); replace HO_12 := aM (Kd.R_mono (ok' := fun k_ => some k_ ≠ (v672 : Value).ownBlock ∧ some k_ ≠ (.slice Ao46 t683.length co46 : Value).ownBlock ∧ some k_ ≠ (.slice Ao71 t700.length co71 : Value).ownBlock) (Kd.R_keptB (HO_12.out) hkp (fun k_ hk_ hs_ => (hk_.2.1) hs_)) (fun k_ hk_ => ⟨hk_.1.1, hk_.1.2.1, hk_.1.2.2⟩)); replace HO_682003 := aM (Kd.R_mono (ok' := fun k_ => some k_ ≠ (.slice Ao67 t695.length co67 : Value).ownBlock) (Kd.R_keptB ((Kd.R_apart' HO_682003.out (Kd.R_typed HO_687001.out) (by decide))) hkp (fun k_ hk_ hs_ => (hk_.2) hs_)) (fun k_ hk_ => hk_.1.1.2)); replace BK657 := aM (blk_kept TK hkp (fun hs_ => (fun e_ => (Kd.R_ne HO_687001.out BK657.out (by decide)) e_) hs_)); replace BK658 := aM (blk_kept TK hkp (fun hs_ => (fun e_ => (Kd.R_ne HO_687001.out BK658.out (by decide)) e_) hs_)); replace BK681 := aM (blk_kept TK hkp (fun hs_ => (fun e_ => (Kd.R_ne HO_687001.out BK681.out (by decide)) e_) hs_)); replace BK686 := aM (blk_kept TK hkp (fun hs_ => (fun e_ => (Kd.R_ne HO_687001.out BK686.out (by decide)) e_) hs_)); replace HO697 := aM (Kd.R_mono (ok' := fun k_ => some k_ ≠ (.slice Ao38 t678.length co38 : Value).ownBlock) (Kd.R_keptB ((Kd.R_apart' HO697.out (Kd.R_typed HO_687001.out) (by decide))) hkp (fun k_ hk_ hs_ => (hk_.2) hs_)) (fun k_ hk_ => hk_.1.1)); replace HO_687001 := aM (Kd.R_reok rfl hy0 (fun k_ e_ => HO_687001.out.1 k_ e_)); replace HO702 := aM (Kd.R_mono (ok' := fun k_ => some k_ ≠ (v672 : Value).ownBlock ∧ some k_ ≠ (v688 : Value).ownBlock ∧ some k_ ≠ (.slice Ao46 t683.length co46 : Value).ownBlock) (Kd.R_keptB (HO702.out) hkp (fun k_ hk_ hs_ => (hk_.2.2) hs_)) (fun k_ hk_ => ⟨hk_.1.1, hk_.1.2.1, hk_.1.2.2⟩)); replace HB := aM (hb); clear hb; (try clear hkp); (try clear hy0)))
          (try simp only [Act.put, List.setIfInBounds_toArray, List.set_cons_zero, List.set_cons_succ])
          go_cut [86] (fun v86 wc => ∃ (kq : Nat) (x86_63 : Bool), v86 = .bool x86_63 ∧ Aside0 (laws_FnExactPieceAt.j1 kq a2 t671 t674 t687 x86_63 a0_0 a0_1 a0_2 l0_3 a1_0 l1_1 = some r) ∧ Aside0 (kq ≤ kj22) ∧ Aside0 (Kd.R (Kd.int .u8) 5 wc w.heap.size (fun k_ => some k_ ≠ (v688 : Value).ownBlock ∧ some k_ ≠ ((.slice Ao46 t683.length co46) : Value).ownBlock) v672 t671) ∧ Aside0 (Kd.R (Kd.int .u8) 5 wc w.heap.size (fun k_ => some k_ ≠ (v672 : Value).ownBlock ∧ some k_ ≠ ((.slice Ao46 t683.length co46) : Value).ownBlock) v688 t687) ∧ Aside0 (Kd.R k72 72 wc w.heap.size (fun _ => True) (.slice Ao38 t678.length co38) t705) ∧ Aside0 (Kd.R (Kd.int .u8) 5 wc w.heap.size (fun k_ => some k_ ≠ (v672 : Value).ownBlock ∧ some k_ ≠ (v688 : Value).ownBlock) (.slice Ao46 t683.length co46) t707) ∧ Aside0 (wc.heap[gb657]? = some (.cells #[.int .i64 a0_0, .int .i64 a0_1, .int .i64 a0_2, (.slice A0_3 l0_3.length c0_3)] 24 (0, 0))) ∧ Aside0 (wc.heap[gb658]? = some (.cells #[.int .i64 a1_0, (.slice A1_1 l1_1.length c1_1)] 27 (0, 0))) ∧ Aside0 (wc.heap[gb681]? = some (.cells #[.int .i64 t675, .int .i64 t676, .int .i64 t677, (.slice Ao38 t678.length co38)] 33 (0, 0))) ∧ Aside0 (wc.heap[gb686]? = some (.cells #[.int .i64 t682, (.slice Ao46 t683.length co46)] 35 (0, 0))) ∧ Aside0 (Below w.heap.size w wc))
          case first =>
            have H := HC64.out
            clear HC64
            by_cases c82 : t706 < 0
            · rw [if_pos c82] at H
              have c82b0 : decide (t706 < 0) = true := decide_eq_true c82
              clear c82
              (first | rw [c82b0] | (simp only [i64_w, i32_w]; rw [c82b0]) | skip)
              have H' := aM H
              clear H
              go_wp2
              go_meet
              case rel => exact ⟨_, (true), (by first | rfl | (simp; done) | (simp [*]; done)), H', ⟨by have := HJ22.out; first | omega | exact Nat.le_refl _⟩, ⟨by (with_reducible repeat (first | apply Kd.R_alloc | apply Kd.R_drewN | apply Kd.R_drew)); exact Kd.R_mono HO_8.out (fun _ hk => ⟨hk.1, hk.2.1⟩)⟩, ⟨by (with_reducible repeat (first | apply Kd.R_alloc | apply Kd.R_drewN | apply Kd.R_drew)); exact Kd.R_mono HO_12.out (fun _ hk => ⟨hk.1, hk.2.1⟩)⟩, ⟨by (with_reducible repeat (first | apply Kd.R_alloc | apply Kd.R_drewN | apply Kd.R_drew)); exact Kd.R_mono HO_682003.out (fun _ hk => trivial)⟩, ⟨by (with_reducible repeat (first | apply Kd.R_alloc | apply Kd.R_drewN | apply Kd.R_drew)); exact Kd.R_mono HO_687001.out (fun _ hk => ⟨hk.1, hk.2.1⟩)⟩, ⟨TK⟩, ⟨TK⟩, ⟨TK⟩, ⟨TK⟩, ⟨TB⟩⟩
            · rw [if_neg c82] at H
              have c82b0 : decide (t706 < 0) = false := decide_eq_false c82
              clear c82
              (first | rw [c82b0] | (simp only [i64_w, i32_w]; rw [c82b0]) | skip)
              replace H := bE H
              obtain ⟨t708, A83, H⟩ := H
              by_cases c84 : t708 = true
              · subst c84
                replace H := ifT H
                have H' := aM H
                clear H
                obtain ⟨Ao85, co85, eo85⟩ := Kd.R_slice HO_12.out
                subst eo85
                obtain ⟨Ao86, co86, eo86⟩ := Kd.R_slice HO_8.out
                subst eo86
                go_wp2_with (first | (go_at_call 27; (with_reducible refine (laws_eqByteS.calls kj22 _ _ t687 _ _ t671 true _ ?side1 ?side2 ?side3 ?side4 A83.out).mono ?_); (case side1 => have X_ := (Kd.R_reads' HO_12.out).2.2; exact TC); (case side2 => exact (Kd.R_reads' HO_12.out).2.1); (case side3 => have X_ := (Kd.R_reads' HO_8.out).2.2; exact TC); (case side4 => exact (Kd.R_reads' HO_8.out).2.1); rintro e w' ⟨rfl, ⟨nd, rfl⟩⟩))
                go_meet
                case rel => exact ⟨_, ((t690 != t674)), (by first | rfl | (simp; done) | (simp [*]; done)), H', ⟨by have := HJ22.out; first | omega | exact Nat.le_refl _⟩, ⟨by (with_reducible repeat (first | apply Kd.R_alloc | apply Kd.R_drewN | apply Kd.R_drew)); exact Kd.R_mono HO_8.out (fun _ hk => ⟨hk.1, hk.2.1⟩)⟩, ⟨by (with_reducible repeat (first | apply Kd.R_alloc | apply Kd.R_drewN | apply Kd.R_drew)); exact Kd.R_mono HO_12.out (fun _ hk => ⟨hk.1, hk.2.1⟩)⟩, ⟨by (with_reducible repeat (first | apply Kd.R_alloc | apply Kd.R_drewN | apply Kd.R_drew)); exact Kd.R_mono HO_682003.out (fun _ hk => trivial)⟩, ⟨by (with_reducible repeat (first | apply Kd.R_alloc | apply Kd.R_drewN | apply Kd.R_drew)); exact Kd.R_mono HO_687001.out (fun _ hk => ⟨hk.1, hk.2.1⟩)⟩, ⟨TK⟩, ⟨TK⟩, ⟨TK⟩, ⟨TK⟩, ⟨TB⟩⟩
              · replace c84 := Bool.eq_false_iff.mpr c84
                subst c84
                replace H := ifF H
                have H' := aM H
                clear H
                obtain ⟨Ao87, co87, eo87⟩ := Kd.R_slice HO_12.out
                subst eo87
                obtain ⟨Ao88, co88, eo88⟩ := Kd.R_slice HO_8.out
                subst eo88
                go_wp2_with (first | (go_at_call 27; (with_reducible refine (laws_eqByteS.calls kj22 _ _ t687 _ _ t671 false _ ?side1 ?side2 ?side3 ?side4 A83.out).mono ?_); (case side1 => have X_ := (Kd.R_reads' HO_12.out).2.2; exact TC); (case side2 => exact (Kd.R_reads' HO_12.out).2.1); (case side3 => have X_ := (Kd.R_reads' HO_8.out).2.2; exact TC); (case side4 => exact (Kd.R_reads' HO_8.out).2.1); rintro e w' ⟨rfl, ⟨nd, rfl⟩⟩))
                go_meet
                case rel => exact ⟨_, (true), (by first | rfl | (simp; done) | (simp [*]; done)), H', ⟨by have := HJ22.out; first | omega | exact Nat.le_refl _⟩, ⟨by (with_reducible repeat (first | apply Kd.R_alloc | apply Kd.R_drewN | apply Kd.R_drew)); exact Kd.R_mono HO_8.out (fun _ hk => ⟨hk.1, hk.2.1⟩)⟩, ⟨by (with_reducible repeat (first | apply Kd.R_alloc | apply Kd.R_drewN | apply Kd.R_drew)); exact Kd.R_mono HO_12.out (fun _ hk => ⟨hk.1, hk.2.1⟩)⟩, ⟨by (with_reducible repeat (first | apply Kd.R_alloc | apply Kd.R_drewN | apply Kd.R_drew)); exact Kd.R_mono HO_682003.out (fun _ hk => trivial)⟩, ⟨by (with_reducible repeat (first | apply Kd.R_alloc | apply Kd.R_drewN | apply Kd.R_drew)); exact Kd.R_mono HO_687001.out (fun _ hk => ⟨hk.1, hk.2.1⟩)⟩, ⟨TK⟩, ⟨TK⟩, ⟨TK⟩, ⟨TK⟩, ⟨TB⟩⟩
          case rest =>
            clear HC64
            try clear c1
            try clear c2
            try clear p2
            try clear c3
            try clear c4
            try clear c5
            try clear c6
            try clear c7
            try clear c8
            try clear c9
            try clear c9b0
            try clear c11
            try clear c12
            try clear c13
            try clear c14
            try clear c15
            try clear c15b0
            try clear c17
            try clear c18
            try clear c21
            try clear c22
            try clear c27
            try clear c31
            try clear c32
            try clear c33
            try clear c35
            try clear c36
            try clear c42
            try clear c43
            try clear c44
            try clear c50
            try clear c55
            try clear c58
            try clear c61
            try clear c73
            try clear c74
            try clear c75
            try clear c78
            try clear c79
            try clear c82
            try clear c82b0
            try clear c84
            try clear hcz14_0
            try clear hcz14_1
            try clear hcz32_0
            try clear hcz32_1
            try clear hcz32_2
            try clear hcz32_3
            try clear hcz37_0
            try clear hcz37_1
            try clear hcz37_2
            try clear hcz37_3
            try clear hcz39_0
            try clear hcz39_1
            try clear hcz45_0
            try clear hcz45_1
            try clear hcz47_0
            try clear hcz47_1
            try clear hcz47_2
            try clear hcz47_3
            try clear hcz76_0
            try clear hcz76_1
            try clear hcz76_2
            try clear hcz76_3
            try clear hcz80_0
            try clear hcz80_1
            try clear hcz8_0
            try clear hcz8_1
            try clear hcz8_2
            try clear hcz8_3
            try clear hfz14_0
            try clear hfz14_1
            try clear hfz32_0
            try clear hfz32_1
            try clear hfz32_2
            try clear hfz32_3
            try clear hfz37_0
            try clear hfz37_1
            try clear hfz37_2
            try clear hfz37_3
            try clear hfz39_0
            try clear hfz39_1
            try clear hfz45_0
            try clear hfz45_1
            try clear hfz47_0
            try clear hfz47_1
            try clear hfz47_2
            try clear hfz47_3
            try clear hfz76_0
            try clear hfz76_1
            try clear hfz76_2
            try clear hfz76_3
            try clear hfz80_0
            try clear hfz80_1
            try clear hfz8_0
            try clear hfz8_1
            try clear hfz8_2
            try clear hfz8_3
            try clear p2
            obtain ⟨kq, x86_63, rfl, HA, HJ63, HO_8, HO_12, HO_682003, HO_687001, BK657, BK658, BK681, BK686, HB⟩ := hcut
            have hl682003_63 := (Kd.R_reads' HO_682003.out).1
            rw [hl682003_63] at HO_682003
            (try simp only [hl682003_63])
            (try simp only [hl682003_63] at BK657)
            (try simp only [hl682003_63] at BK658)
            (try simp only [hl682003_63] at BK681)
            (try simp only [hl682003_63] at BK686)
            (try simp only [hl682003_63] at HO_8)
            (try simp only [hl682003_63] at HO_12)
            (try simp only [hl682003_63] at HO_687001)
            have hl687001_63 := (Kd.R_reads' HO_687001.out).1
            rw [hl687001_63] at HO_687001
            (try simp only [hl687001_63])
            (try simp only [hl687001_63] at BK657)
            (try simp only [hl687001_63] at BK658)
            (try simp only [hl687001_63] at BK681)
            (try simp only [hl687001_63] at BK686)
            (try simp only [hl687001_63] at HO_8)
            (try simp only [hl687001_63] at HO_12)
            (try simp only [hl687001_63] at HO_682003)
            cases kq with
            | zero => exact absurd HA.out (by simp [laws_FnExactPieceAt.j1])
            | succ kj63 =>
              have H := HA.out
              clear HA
              simp only [laws_FnExactPieceAt.j1] at H
              replace H := ifM H
              obtain ⟨c89, H⟩ := H
              replace c89 := Bool.eq_false_iff.mpr c89
              subst c89
              replace H := bE H
              obtain ⟨⟨t709, t710⟩, A90, H⟩ := H
              dsimp only at H
              replace H := bE H
              obtain ⟨t711, A91, H⟩ := H
              replace H := ifM H
              obtain ⟨c92, H⟩ := H
              have c92b0 : decide (t711 < 0) = false := decide_eq_false c92
              clear c92
              replace H := ifN H
              obtain ⟨c93, H⟩ := H
              have c93b0 : (t711 == t709) = true := beq_iff_eq.mpr c93
              have c93b1 : (t711 != t709) = false := bne_eq_false_iff_eq.mpr c93
              clear c93
              replace H := bE H
              obtain ⟨⟨t712, t713, t714, t715⟩, A94, H⟩ := H
              dsimp only at H
              replace H := bE H
              obtain ⟨⟨t718, t719⟩, A95, H⟩ := H
              dsimp only at H
              replace H := bE H
              obtain ⟨⟨t722, t725⟩, A96, H⟩ := H
              dsimp only at H
              have HC97 := aM H
              clear H
              obtain ⟨Ao98, co98, eo98⟩ := Kd.R_slice HO_12.out
              subst eo98
              try go_wp2_with (first | ((with_reducible refine gate_callee (f := 34) rfl ?_); refine gL (some 89) Try.func34 #[.slice Ao98 t687.length co98, .int .i64 1] ?_; (with_reducible refine (laws_markByteS.calls kj63 (fun k_ => some k_ = (.slice Ao98 t687.length co98 : Value).ownBlock) (.slice Ao98 t687.length co98) t687 1 t709 t710 w _ ?side1 ?side2 A90.out).mono ?_); (case side1 => repeat (first | (with_reducible first | exact HB.out | apply below_alloc | apply pw_below_drewN | apply below_drew1 | refine below_set ?_ GE657.out | refine below_set ?_ GE658.out | refine below_set ?_ GE681.out | refine below_set ?_ GE686.out) | exact HB.out)); (case side2 => exact Kd.R_tight rfl HO_12.out); rintro e w99 ⟨rfl, hy0, hb, hkp⟩; refine ⟨_, rfl, ?_⟩; replace HO_8 := aM (Kd.R_mono (ok' := fun k_ => some k_ ≠ (.slice Ao98 t687.length co98 : Value).ownBlock ∧ some k_ ≠ (.slice Ao46 t707.length co46 : Value).ownBlock) (Kd.R_keptB (HO_8.out) hkp (fun k_ hk_ hs_ => (hk_.1) hs_)) (fun k_ hk_ => ⟨hk_.1.1, hk_.1.2⟩)); replace HO_682003 := aM (Kd.R_mono (ok' := fun k_ => True) (Kd.R_keptB ((Kd.R_apart' HO_682003.out (Kd.R_typed HO_12.out) (by decide))) hkp (fun k_ hk_ hs_ => (hk_.2) hs_)) (fun k_ hk_ => trivial)); replace HO_687001 := aM (Kd.R_mono (ok' := fun k_ => some k_ ≠ (v672 : Value).ownBlock ∧ some k_ ≠ (.slice Ao98 t687.length co98 : Value).ownBlock) (Kd.R_keptB (HO_687001.out) hkp (fun k_ hk_ hs_ => (hk_.2) hs_)) (fun k_ hk_ => ⟨hk_.1.1, hk_.1.2⟩)); replace BK657 := aM (blk_kept TK hkp (fun hs_ => (fun e_ => (Kd.R_ne HO_12.out BK657.out (by decide)) e_) hs_)); replace BK658 := aM (blk_kept TK hkp (fun hs_ => (fun e_ => (Kd.R_ne HO_12.out BK658.out (by decide)) e_) hs_)); replace BK681 := aM (blk_kept TK hkp (fun hs_ => (fun e_ => (Kd.R_ne HO_12.out BK681.out (by decide)) e_) hs_)); replace BK686 := aM (blk_kept TK hkp (fun hs_ => (fun e_ => (Kd.R_ne HO_12.out BK686.out (by decide)) e_) hs_)); replace HO_12 := aM (Kd.R_reok rfl hy0 (fun k_ e_ => HO_12.out.1 k_ e_)); replace HB := aM (hb); clear hb; (try clear hkp); (try clear hy0)) | ((with_reducible refine gate_callee (f := 35) rfl ?_); refine goesL_ (some 92) rfl rfl Try.func35 (by kernel_rfl) rfl #[.slice Ao98 t710.length co98, .int .i64 1] rfl (by (try simp only [List.map_toArray, List.map_cons, List.map_nil]); first | done | (rw [show t710.length = t687.length from (Kd.R_reads' HO_12.out).1.symm] <;> rfl) | rfl | (simp only [List.length_drop, List.length_take]; rfl)) ?_; (with_reducible refine (laws_heldByteS.calls kj63 _ _ t710 1 t711 _ ?side1 ?side2 A91.out).mono ?_); (case side1 => have X_ := (Kd.R_reads' HO_12.out).2.2; exact TC); (case side2 => rw [show t710.length = t687.length from (Kd.R_reads' HO_12.out).1.symm]; exact (Kd.R_reads' HO_12.out).2.1); rintro e w' ⟨rfl, ⟨nd, rfl⟩⟩; refine ⟨_, rfl, ?_⟩))
              (try (rw [drewN_self w99]; generalize hq_ : World.drewN w99 _ = w99; have n0_ : Aside0 (Kd.R (Kd.int .u8) 5 w99 w.heap.size (fun k_ => (some k_ ≠ (v672 : Value).ownBlock ∧ some k_ ≠ (.slice Ao46 t707.length co46 : Value).ownBlock)) (.slice Ao98 t687.length co98) t710) := ⟨by rw [← hq_]; exact (by have X_ := HO_12.out; exact TR)⟩; have n1_ : Aside0 (Kd.R k72 72 w99 w.heap.size (fun _ => True) (.slice Ao38 t705.length co38) t705) := ⟨by rw [← hq_]; exact (by have X_ := HO_682003.out; exact TR)⟩; have n2_ : Aside0 (Kd.R (Kd.int .u8) 5 w99 w.heap.size (fun k_ => (some k_ ≠ (v672 : Value).ownBlock ∧ some k_ ≠ (.slice Ao98 t687.length co98 : Value).ownBlock)) (.slice Ao46 t707.length co46) t707) := ⟨by rw [← hq_]; exact (by have X_ := HO_687001.out; exact TR)⟩; have n3_ : Aside0 (Kd.R (Kd.int .u8) 5 w99 w.heap.size (fun k_ => (some k_ ≠ (.slice Ao98 t687.length co98 : Value).ownBlock ∧ some k_ ≠ (.slice Ao46 t707.length co46 : Value).ownBlock)) v672 t671) := ⟨by rw [← hq_]; exact (by have X_ := HO_8.out; exact TR)⟩; have n4_ : Aside0 (w99.heap[gb657]? = some (.cells #[.int .i64 a0_0, .int .i64 a0_1, .int .i64 a0_2, .slice A0_3 l0_3.length c0_3] 24 (0, 0))) := ⟨by rw [← hq_]; exact TK⟩; have n5_ : Aside0 (w99.heap[gb658]? = some (.cells #[.int .i64 a1_0, .slice A1_1 l1_1.length c1_1] 27 (0, 0))) := ⟨by rw [← hq_]; exact TK⟩; have n6_ : Aside0 (w99.heap[gb681]? = some (.cells #[.int .i64 t675, .int .i64 t676, .int .i64 t677, .slice Ao38 t705.length co38] 33 (0, 0))) := ⟨by rw [← hq_]; exact TK⟩; have n7_ : Aside0 (w99.heap[gb686]? = some (.cells #[.int .i64 t682, .slice Ao46 t707.length co46] 35 (0, 0))) := ⟨by rw [← hq_]; exact TK⟩; have n8_ : Aside0 (Below w.heap.size w w99) := ⟨by rw [← hq_]; exact TB⟩; clear HO_12 HO_682003 HO_687001 HO_8 BK657 BK658 BK681 BK686 HB hq_; have HO_12 := n0_; have HO_682003 := n1_; have HO_687001 := n2_; have HO_8 := n3_; have BK657 := n4_; have BK658 := n5_; have BK681 := n6_; have BK686 := n7_; have HB := n8_; clear n0_ n1_ n2_ n3_ n4_ n5_ n6_ n7_ n8_))
              replace HO_8 := aM (Kd.R_drew HO_8.out)
              replace HO_12 := aM (Kd.R_drew HO_12.out)
              replace HO_682003 := aM (Kd.R_drew HO_682003.out)
              replace HO_687001 := aM (Kd.R_drew HO_687001.out)
              replace BK657 := aM (blk_drew BK657.out)
              replace BK658 := aM (blk_drew BK658.out)
              replace BK681 := aM (blk_drew BK681.out)
              replace BK686 := aM (blk_drew BK686.out)
              replace HB := aM (below_drew1 HB.out)
              refine start_ (n := 11) (S := fun w' => w'.cell? ⟨gb657, 0, none⟩ = some (.int .i64 a0_0) ∧ w'.cell? ⟨gb657, 1, none⟩ = some (.int .i64 a0_1) ∧ w'.cell? ⟨gb657, 2, none⟩ = some (.int .i64 a0_2) ∧ w'.cell? ⟨gb657, 3, none⟩ = some (.slice A0_3 l0_3.length c0_3) ∧ w'.cell? ⟨gb658, 0, none⟩ = some (.int .i64 a1_0) ∧ w'.cell? ⟨gb658, 1, none⟩ = some (.slice A1_1 l1_1.length c1_1)) (ds := []) (Array.replicate 11 false) (by kernel_rfl) rfl rfl ⟨(blk_cell BK657.out 0).trans rfl, (blk_cell BK657.out 1).trans rfl, (blk_cell BK657.out 2).trans rfl, (blk_cell BK657.out 3).trans rfl, (blk_cell BK658.out 0).trans rfl, (blk_cell BK658.out 1).trans rfl⟩ (fun hHeld => ?_); refine with_tabW laws_FnExactPieceAt.tab31 laws_FnExactPieceAt.bits31 (fun HT_ HW_ => ?_)
              generalize w99.drew = w100 at HO_8 HO_12 HO_682003 HO_687001 BK657 BK658 BK681 BK686 HB hHeld ⊢
              refine pP 4 (some 103) ?_
              refine pT 0 (some 99) ?_
              refine pT 2 (some 101) ?_
              refine pO 1 (some 100) (fun K hK => ?_)
              refine gG Try.func14 #[.agg #[.int .i64 a0_0, .int .i64 a0_1, .int .i64 a0_2, .slice A0_3 l0_3.length c0_3]] ?_
              with_reducible refine (laws_toManifest.calls kj63 a0_0 a0_1 a0_2 _ _ l0_3 t712 t713 t714 t715 _ ?side1 ?side2 A94.out).mono ?_
              (case side1 => have X_ := (Kd.C_below HR0_3.out HB.out); exact TC)
              (case side2 => exact HC0_3.out)
              rintro e w101 ⟨v716, rfl, ho0, hb⟩
              refine ⟨_, rfl, ?_⟩
              have n0_ := aM (Kd.R_below (by have X_ := HO_8.out; exact TR) hb)
              have n1_ := aM (Kd.R_below (by have X_ := HO_12.out; exact TR) hb)
              have n2_ := aM (Kd.R_elder' (by have X_ := HO_682003.out; exact TR) (Kd.R_base ho0) hb)
              have n3_ := aM (Kd.R_below (by have X_ := HO_687001.out; exact TR) hb)
              have n4_ := aM (Kd.R_lower (Kd.R_new' ho0 (Kd.R_lt (by have X_ := HO_682003.out; exact TR))) (below_size TB))
              have n5_ := aM (blk_below (g := gb657) (o := .cells #[.int .i64 a0_0, .int .i64 a0_1, .int .i64 a0_2, .slice A0_3 l0_3.length c0_3] 24 (0, 0)) TK hb)
              have n6_ := aM (blk_below (g := gb658) (o := .cells #[.int .i64 a1_0, .slice A1_1 l1_1.length c1_1] 27 (0, 0)) TK hb)
              have n7_ := aM (blk_below (g := gb681) (o := .cells #[.int .i64 t675, .int .i64 t676, .int .i64 t677, .slice Ao38 t705.length co38] 33 (0, 0)) TK hb)
              have n8_ := aM (blk_below (g := gb686) (o := .cells #[.int .i64 t682, .slice Ao46 t707.length co46] 35 (0, 0)) TK hb)
              have n9_ := aM (below_step TB hb)
              clear HO_8
              clear HO_12
              clear HO_682003
              clear HO_687001
              clear BK657
              clear BK658
              clear BK681
              clear BK686
              clear HB
              have HO_8 := n0_
              have HO_12 := n1_
              have HO_682003 := n2_
              have HO_687001 := n3_
              have HO717 := n4_
              have BK657 := n5_
              have BK658 := n6_
              have BK681 := n7_
              have BK686 := n8_
              have HB := n9_
              clear n0_ n1_ n2_ n3_ n4_ n5_ n6_ n7_ n8_ n9_
              (try clear hb)
              (try clear hb2)
              (try clear hk)
              (try clear hi)
              (try clear ho0)
              refine hK.out _ _ ⟨(blk_cell BK657.out 0).trans rfl, (blk_cell BK657.out 1).trans rfl, (blk_cell BK657.out 2).trans rfl, (blk_cell BK657.out 3).trans rfl, (blk_cell BK658.out 0).trans rfl, (blk_cell BK658.out 1).trans rfl⟩ (fun hHeld => ?_)
              clear hK K
              refine nR ?_
              refine pO 3 (some 102) (fun K hK => ?_)
              refine gG Try.func15 #[.agg #[.int .i64 a1_0, .slice A1_1 l1_1.length c1_1]] ?_
              with_reducible refine (laws_toBuild.calls kj63 a1_0 _ _ l1_1 t718 t719 _ ?side1 ?side2 A95.out).mono ?_
              (case side1 => have X_ := (Kd.C_below HR1_1.out HB.out); exact TC)
              (case side2 => exact HC1_1.out)
              rintro e w102 ⟨v720, rfl, ho0, hb⟩
              refine ⟨_, rfl, ?_⟩
              have n0_ := aM (Kd.R_elder' (by have X_ := HO_8.out; exact TR) (Kd.R_base ho0) hb)
              have n1_ := aM (Kd.R_elder' (by have X_ := HO_12.out; exact TR) (Kd.R_base ho0) hb)
              have n2_ := aM (Kd.R_below (by have X_ := HO_682003.out; exact TR) hb)
              have n3_ := aM (Kd.R_elder' (by have X_ := HO_687001.out; exact TR) (Kd.R_base ho0) hb)
              have n4_ := aM (Kd.R_below (by have X_ := HO717.out; exact TR) hb)
              have n5_ := aM (Kd.R_lower (Kd.R_new' (Kd.R_new' (Kd.R_new' ho0 (Kd.R_lt (by have X_ := HO_8.out; exact TR))) (Kd.R_lt (by have X_ := HO_12.out; exact TR))) (Kd.R_lt (by have X_ := HO_687001.out; exact TR))) (below_size TB))
              have n6_ := aM (blk_below (g := gb657) (o := .cells #[.int .i64 a0_0, .int .i64 a0_1, .int .i64 a0_2, .slice A0_3 l0_3.length c0_3] 24 (0, 0)) TK hb)
              have n7_ := aM (blk_below (g := gb658) (o := .cells #[.int .i64 a1_0, .slice A1_1 l1_1.length c1_1] 27 (0, 0)) TK hb)
              have n8_ := aM (blk_below (g := gb681) (o := .cells #[.int .i64 t675, .int .i64 t676, .int .i64 t677, .slice Ao38 t705.length co38] 33 (0, 0)) TK hb)
              have n9_ := aM (blk_below (g := gb686) (o := .cells #[.int .i64 t682, .slice Ao46 t707.length co46] 35 (0, 0)) TK hb)
              have n10_ := aM (below_step TB hb)
              clear HO_8
              clear HO_12
              clear HO_682003
              clear HO_687001
              clear HO717
              clear BK657
              clear BK658
              clear BK681
              clear BK686
              clear HB
              have HO_8 := n0_
              have HO_12 := n1_
              have HO_682003 := n2_
              have HO_687001 := n3_
              have HO717 := n4_
              have HO721 := n5_
              have BK657 := n6_
              have BK658 := n7_
              have BK681 := n8_
              have BK686 := n9_
              have HB := n10_
              clear n0_ n1_ n2_ n3_ n4_ n5_ n6_ n7_ n8_ n9_ n10_
              (try clear hb)
              (try clear hb2)
              (try clear hk)
              (try clear hi)
              (try clear ho0)
              obtain ⟨Ao103, co103, eo103⟩ := Kd.R_slice HO717.out
              (first | subst eo103 | (injection eo103 with f1_ f2_ f3_; have f4_ := f1_.symm; have f5_ := f3_.symm; clear f1_ f2_ f3_; subst f4_; subst f5_))
              obtain ⟨Ao104, co104, eo104⟩ := Kd.R_slice HO721.out
              (first | subst eo104 | (injection eo104 with f1_ f2_ f3_; have f4_ := f1_.symm; have f5_ := f3_.symm; clear f1_ f2_ f3_; subst f4_; subst f5_))
              refine hK.out _ _ ⟨(blk_cell BK657.out 0).trans rfl, (blk_cell BK657.out 1).trans rfl, (blk_cell BK657.out 2).trans rfl, (blk_cell BK657.out 3).trans rfl, (blk_cell BK658.out 0).trans rfl, (blk_cell BK658.out 1).trans rfl⟩ (fun hHeld => ?_)
              clear hK K
              refine nR ?_
              refine pO 5 (some 104) (fun K hK => ?_)
              refine gG Try.func33 #[.agg #[.int .i64 t712, .int .i64 t713, .int .i64 t714, .slice Ao103 t715.length co103], .agg #[.int .i64 t718, .slice Ao104 t719.length co104], .int .i64 a2] ?_
              with_reducible refine (impl_PieceAt.calls kj63 t712 t713 t714 _ _ t715 t718 _ _ t719 a2 t722 t725 _ ?side1 ?side2 ?side3 ?side4 A96.out).mono ?_
              (case side1 => have X_ := (Kd.R_reads' HO717.out).2.2; exact TC)
              (case side2 => exact (Kd.R_reads' HO717.out).2.1)
              (case side3 => have X_ := (Kd.R_reads' HO721.out).2.2; exact TC)
              (case side4 => exact (Kd.R_reads' HO721.out).2.1)
              rintro e w105 ⟨v723, rfl, ho0, hb⟩
              refine ⟨_, rfl, ?_⟩
              have n0_ := aM (Kd.R_elder' (by have X_ := HO_8.out; exact TR) (Kd.R_base ho0) hb)
              have n1_ := aM (Kd.R_elder' (by have X_ := HO_12.out; exact TR) (Kd.R_base ho0) hb)
              have n2_ := aM (Kd.R_below (by have X_ := HO_682003.out; exact TR) hb)
              have n3_ := aM (Kd.R_elder' (by have X_ := HO_687001.out; exact TR) (Kd.R_base ho0) hb)
              have n4_ := aM (Kd.R_below (by have X_ := HO717.out; exact TR) hb)
              have n5_ := aM (Kd.R_elder' (by have X_ := HO721.out; exact TR) (Kd.R_base ho0) hb)
              have n6_ := aM (Kd.R_lower (Kd.R_new' (Kd.R_new' (Kd.R_new' (Kd.R_new' ho0 (Kd.R_lt (by have X_ := HO_8.out; exact TR))) (Kd.R_lt (by have X_ := HO_12.out; exact TR))) (Kd.R_lt (by have X_ := HO_687001.out; exact TR))) (Kd.R_lt (by have X_ := HO721.out; exact TR))) (below_size TB))
              have n7_ := aM (blk_below (g := gb657) (o := .cells #[.int .i64 a0_0, .int .i64 a0_1, .int .i64 a0_2, .slice A0_3 l0_3.length c0_3] 24 (0, 0)) TK hb)
              have n8_ := aM (blk_below (g := gb658) (o := .cells #[.int .i64 a1_0, .slice A1_1 l1_1.length c1_1] 27 (0, 0)) TK hb)
              have n9_ := aM (blk_below (g := gb681) (o := .cells #[.int .i64 t675, .int .i64 t676, .int .i64 t677, .slice Ao38 t705.length co38] 33 (0, 0)) TK hb)
              have n10_ := aM (blk_below (g := gb686) (o := .cells #[.int .i64 t682, .slice Ao46 t707.length co46] 35 (0, 0)) TK hb)
              have n11_ := aM (below_step TB hb)
              clear HO_8
              clear HO_12
              clear HO_682003
              clear HO_687001
              clear HO717
              clear HO721
              clear BK657
              clear BK658
              clear BK681
              clear BK686
              clear HB
              have HO_8 := n0_
              have HO_12 := n1_
              have HO_682003 := n2_
              have HO_687001 := n3_
              have HO717 := n4_
              have HO721 := n5_
              have HO724 := n6_
              have BK657 := n7_
              have BK658 := n8_
              have BK681 := n9_
              have BK686 := n10_
              have HB := n11_
              clear n0_ n1_ n2_ n3_ n4_ n5_ n6_ n7_ n8_ n9_ n10_ n11_
              (try clear hb)
              (try clear hb2)
              (try clear hk)
              (try clear hi)
              (try clear ho0)
              refine hK.out _ _ ⟨(blk_cell BK657.out 0).trans rfl, (blk_cell BK657.out 1).trans rfl, (blk_cell BK657.out 2).trans rfl, (blk_cell BK657.out 3).trans rfl, (blk_cell BK658.out 0).trans rfl, (blk_cell BK658.out 1).trans rfl⟩ (fun hHeld => ?_)
              clear hK K
              refine nR ?_
              refine pP 6 (some 98) ?_
              refine pP 7 (some 105) ?_
              refine pP 8 (some 106) ?_
              refine pP 9 (some 17) ?_
              refine pP 10 (some 18) ?_
              refine done_ (done_of HT_.out (by kernel_rfl)) ?_
              go_upto_region 32 with (fail)
              go_cut [115] (fun v115 wc => ∃ (kq : Nat) (x115_96 : Bool), v115 = .bool x115_96 ∧ Aside0 (laws_FnExactPieceAt.j2 kq t710 t709 x115_96 = some r) ∧ Aside0 (kq ≤ kj63) ∧ Aside0 (Kd.R (Kd.int .u8) 5 wc w.heap.size (fun k_ => some k_ ≠ ((.slice Ao46 t707.length co46) : Value).ownBlock) (.slice Ao98 t687.length co98) t710) ∧ Aside0 (Kd.R k72 72 wc w.heap.size (fun _ => True) (.slice Ao38 t705.length co38) t705) ∧ Aside0 (Kd.R (Kd.int .u8) 5 wc w.heap.size (fun k_ => some k_ ≠ ((.slice Ao98 t687.length co98) : Value).ownBlock) (.slice Ao46 t707.length co46) t707) ∧ Aside0 (wc.heap[gb657]? = some (.cells #[.int .i64 a0_0, .int .i64 a0_1, .int .i64 a0_2, (.slice A0_3 l0_3.length c0_3)] 24 (0, 0))) ∧ Aside0 (wc.heap[gb658]? = some (.cells #[.int .i64 a1_0, (.slice A1_1 l1_1.length c1_1)] 27 (0, 0))) ∧ Aside0 (wc.heap[gb681]? = some (.cells #[.int .i64 t675, .int .i64 t676, .int .i64 t677, (.slice Ao38 t705.length co38)] 33 (0, 0))) ∧ Aside0 (wc.heap[gb686]? = some (.cells #[.int .i64 t682, (.slice Ao46 t707.length co46)] 35 (0, 0))) ∧ Aside0 (Below w.heap.size w wc))
              case first =>
                have H := HC97.out
                clear HC97
                replace H := bE H
                obtain ⟨t726, A106, H⟩ := H
                by_cases c107 : t726 = true
                · subst c107
                  replace H := ifT H
                  have H' := aM H
                  clear H
                  obtain ⟨Ao108, co108, eo108⟩ := Kd.R_slice HO724.out
                  subst eo108
                  obtain ⟨Ao109, co109, eo109⟩ := Kd.R_slice HO_8.out
                  subst eo109
                  go_wp2_with (first | ((with_reducible refine gate_callee (f := 27) rfl ?_); refine gL (some 109) Try.func27 #[.slice Ao108 t722.length co108, .slice Ao109 t671.length co109] ?_; (with_reducible refine (laws_eqByteS.calls kj63 _ _ t722 _ _ t671 true _ ?side1 ?side2 ?side3 ?side4 A106.out).mono ?_); (case side1 => have X_ := (Kd.R_reads' HO724.out).2.2; exact TC); (case side2 => exact (Kd.R_reads' HO724.out).2.1); (case side3 => have X_ := (Kd.R_reads' HO_8.out).2.2; exact TC); (case side4 => exact (Kd.R_reads' HO_8.out).2.1); rintro e w' ⟨rfl, ⟨nd, rfl⟩⟩; refine ⟨_, rfl, ?_⟩))
                  go_meet
                  case rel => exact ⟨_, ((t725 != t674)), (by first | rfl | (simp; done) | (simp [*]; done)), H', ⟨by have := HJ22.out; have := HJ63.out; first | omega | exact Nat.le_refl _⟩, ⟨by (try simp only [hl682003_63]); (try simp only [hl687001_63]); (with_reducible repeat (first | apply Kd.R_alloc | apply Kd.R_drewN | apply Kd.R_drew)); exact Kd.R_mono HO_12.out (fun _ hk => hk.1.1.2)⟩, ⟨by (try simp only [hl682003_63]); (try simp only [hl687001_63]); (with_reducible repeat (first | apply Kd.R_alloc | apply Kd.R_drewN | apply Kd.R_drew)); exact Kd.R_mono HO_682003.out (fun _ hk => trivial)⟩, ⟨by (try simp only [hl682003_63]); (try simp only [hl687001_63]); (with_reducible repeat (first | apply Kd.R_alloc | apply Kd.R_drewN | apply Kd.R_drew)); exact Kd.R_mono HO_687001.out (fun _ hk => hk.1.1.2)⟩, ⟨by (try simp only [hl682003_63]); (try simp only [hl687001_63]); (with_reducible repeat (first | refine blk_drewN ?_ _ | refine blk_drew ?_ | refine blk_alloc ?_ _)); exact BK657.out⟩, ⟨by (try simp only [hl682003_63]); (try simp only [hl687001_63]); (with_reducible repeat (first | refine blk_drewN ?_ _ | refine blk_drew ?_ | refine blk_alloc ?_ _)); exact BK658.out⟩, ⟨by (try simp only [hl682003_63]); (try simp only [hl687001_63]); (with_reducible repeat (first | refine blk_drewN ?_ _ | refine blk_drew ?_ | refine blk_alloc ?_ _)); exact BK681.out⟩, ⟨by (try simp only [hl682003_63]); (try simp only [hl687001_63]); (with_reducible repeat (first | refine blk_drewN ?_ _ | refine blk_drew ?_ | refine blk_alloc ?_ _)); exact BK686.out⟩, ⟨TB⟩⟩
                · replace c107 := Bool.eq_false_iff.mpr c107
                  subst c107
                  replace H := ifF H
                  have H' := aM H
                  clear H
                  obtain ⟨Ao110, co110, eo110⟩ := Kd.R_slice HO724.out
                  subst eo110
                  obtain ⟨Ao111, co111, eo111⟩ := Kd.R_slice HO_8.out
                  subst eo111
                  go_wp2_with (first | ((with_reducible refine gate_callee (f := 27) rfl ?_); refine gL (some 109) Try.func27 #[.slice Ao110 t722.length co110, .slice Ao111 t671.length co111] ?_; (with_reducible refine (laws_eqByteS.calls kj63 _ _ t722 _ _ t671 false _ ?side1 ?side2 ?side3 ?side4 A106.out).mono ?_); (case side1 => have X_ := (Kd.R_reads' HO724.out).2.2; exact TC); (case side2 => exact (Kd.R_reads' HO724.out).2.1); (case side3 => have X_ := (Kd.R_reads' HO_8.out).2.2; exact TC); (case side4 => exact (Kd.R_reads' HO_8.out).2.1); rintro e w' ⟨rfl, ⟨nd, rfl⟩⟩; refine ⟨_, rfl, ?_⟩))
                  go_meet
                  case rel => exact ⟨_, (true), (by first | rfl | (simp; done) | (simp [*]; done)), H', ⟨by have := HJ22.out; have := HJ63.out; first | omega | exact Nat.le_refl _⟩, ⟨by (try simp only [hl682003_63]); (try simp only [hl687001_63]); (with_reducible repeat (first | apply Kd.R_alloc | apply Kd.R_drewN | apply Kd.R_drew)); exact Kd.R_mono HO_12.out (fun _ hk => hk.1.1.2)⟩, ⟨by (try simp only [hl682003_63]); (try simp only [hl687001_63]); (with_reducible repeat (first | apply Kd.R_alloc | apply Kd.R_drewN | apply Kd.R_drew)); exact Kd.R_mono HO_682003.out (fun _ hk => trivial)⟩, ⟨by (try simp only [hl682003_63]); (try simp only [hl687001_63]); (with_reducible repeat (first | apply Kd.R_alloc | apply Kd.R_drewN | apply Kd.R_drew)); exact Kd.R_mono HO_687001.out (fun _ hk => hk.1.1.2)⟩, ⟨by (try simp only [hl682003_63]); (try simp only [hl687001_63]); (with_reducible repeat (first | refine blk_drewN ?_ _ | refine blk_drew ?_ | refine blk_alloc ?_ _)); exact BK657.out⟩, ⟨by (try simp only [hl682003_63]); (try simp only [hl687001_63]); (with_reducible repeat (first | refine blk_drewN ?_ _ | refine blk_drew ?_ | refine blk_alloc ?_ _)); exact BK658.out⟩, ⟨by (try simp only [hl682003_63]); (try simp only [hl687001_63]); (with_reducible repeat (first | refine blk_drewN ?_ _ | refine blk_drew ?_ | refine blk_alloc ?_ _)); exact BK681.out⟩, ⟨by (try simp only [hl682003_63]); (try simp only [hl687001_63]); (with_reducible repeat (first | refine blk_drewN ?_ _ | refine blk_drew ?_ | refine blk_alloc ?_ _)); exact BK686.out⟩, ⟨TB⟩⟩
              case rest =>
                clear HC97
                try clear c1
                try clear c2
                try clear p2
                try clear c3
                try clear c4
                try clear c5
                try clear c6
                try clear c7
                try clear c8
                try clear c9
                try clear c9b0
                try clear c10
                try clear c11
                try clear c12
                try clear c13
                try clear c14
                try clear c15
                try clear c15b0
                try clear c17
                try clear c18
                try clear c21
                try clear c22
                try clear c27
                try clear c31
                try clear c32
                try clear c33
                try clear c34
                try clear c35
                try clear c36
                try clear c42
                try clear c43
                try clear c44
                try clear c50
                try clear c55
                try clear c58
                try clear c61
                try clear c73
                try clear c74
                try clear c75
                try clear c78
                try clear c79
                try clear c82
                try clear c82b0
                try clear c84
                try clear c89
                try clear c92
                try clear c92b0
                try clear c93
                try clear c93b0
                try clear c93b1
                try clear c107
                try clear hcz14_0
                try clear hcz14_1
                try clear hcz32_0
                try clear hcz32_1
                try clear hcz32_2
                try clear hcz32_3
                try clear hcz37_0
                try clear hcz37_1
                try clear hcz37_2
                try clear hcz37_3
                try clear hcz39_0
                try clear hcz39_1
                try clear hcz45_0
                try clear hcz45_1
                try clear hcz47_0
                try clear hcz47_1
                try clear hcz47_2
                try clear hcz47_3
                try clear hcz76_0
                try clear hcz76_1
                try clear hcz76_2
                try clear hcz76_3
                try clear hcz80_0
                try clear hcz80_1
                try clear hcz8_0
                try clear hcz8_1
                try clear hcz8_2
                try clear hcz8_3
                try clear hfz14_0
                try clear hfz14_1
                try clear hfz32_0
                try clear hfz32_1
                try clear hfz32_2
                try clear hfz32_3
                try clear hfz37_0
                try clear hfz37_1
                try clear hfz37_2
                try clear hfz37_3
                try clear hfz39_0
                try clear hfz39_1
                try clear hfz45_0
                try clear hfz45_1
                try clear hfz47_0
                try clear hfz47_1
                try clear hfz47_2
                try clear hfz47_3
                try clear hfz76_0
                try clear hfz76_1
                try clear hfz76_2
                try clear hfz76_3
                try clear hfz80_0
                try clear hfz80_1
                try clear hfz8_0
                try clear hfz8_1
                try clear hfz8_2
                try clear hfz8_3
                try clear p2
                obtain ⟨kq, x115_96, rfl, HA, HJ96, HO_12, HO_682003, HO_687001, BK657, BK658, BK681, BK686, HB⟩ := hcut
                have hl12_96 := (Kd.R_reads' HO_12.out).1
                rw [hl12_96] at HO_12
                (try simp only [hl12_96])
                (try simp only [hl12_96] at BK657)
                (try simp only [hl12_96] at BK658)
                (try simp only [hl12_96] at BK681)
                (try simp only [hl12_96] at BK686)
                (try simp only [hl12_96] at HO_682003)
                (try simp only [hl12_96] at HO_687001)
                cases kq with
                | zero => exact absurd HA.out (by simp [laws_FnExactPieceAt.j2])
                | succ kj96 =>
                  have H := HA.out
                  clear HA
                  simp only [laws_FnExactPieceAt.j2] at H
                  replace H := ifM H
                  obtain ⟨c112, H⟩ := H
                  replace c112 := Bool.eq_false_iff.mpr c112
                  subst c112
                  replace H := bE H
                  obtain ⟨t727, A113, H⟩ := H
                  replace H := ifM H
                  obtain ⟨c114, H⟩ := H
                  have c114b0 : decide (t727 < 0) = false := decide_eq_false c114
                  clear c114
                  replace H := ifN H
                  obtain ⟨c115, H⟩ := H
                  have c115b0 : (t727 == t709) = true := beq_iff_eq.mpr c115
                  have c115b1 : (t727 != t709) = false := bne_eq_false_iff_eq.mpr c115
                  clear c115
                  obtain rfl := Option.some.inj H
                  go_wp2_with (first | ((with_reducible refine gate_callee (f := 35) rfl ?_); refine gL (some 118) Try.func35 #[.slice Ao98 t710.length co98, .int .i64 1] ?_; (with_reducible refine (laws_heldByteS.calls kj96 _ _ t710 1 t727 _ ?side1 ?side2 A113.out).mono ?_); (case side1 => have X_ := (Kd.R_reads' HO_12.out).2.2; exact TC); (case side2 => exact (Kd.R_reads' HO_12.out).2.1); rintro e w' ⟨rfl, ⟨nd, rfl⟩⟩; refine ⟨_, rfl, ?_⟩))
                  go_ret
                  exact ⟨by first | rfl | (simp [errW_none, errW_some] <;> rfl) | (simp [*, errW_none, errW_some] <;> rfl), TB⟩

end Go.Proofs.Ytnoplippaiblcaa.Q
