/- Functions of the program as plain Lean functions, and that a call of each comes to what its function tells. Written by a program of this seat. -/
import Derived.Test.YtnoplippaiblcaaQ0
import Derived.Test.YtnoplippaiblcaaQ2
import Derived.Test.YtnoplippaiblcaaQ3
import Derived.Test.YtnoplippaiblcaaQ6
import Derived.Test.YtnoplippaiblcaaQ8
import Derived.Test.YtnoplippaiblcaaQ9
import Derived.Test.YtnoplippaiblcaaQ33
import Derived.Test.YtnoplippaiblcaaQ36
namespace Go.Proofs.Ytnoplippaiblcaa.Q
open Go.RowKit Go.Proofs.YtnoplippaiblcaaW.PrintWords Go.Proofs.YtnoplippaiblcaaW.PrintLast Go.Proofs.YtnoplippaiblcaaW.PrintMore
attribute [local go_sem] max2_int min2_int max_two min_two max_three min_three max_four min_four   -- for this text's walks alone
set_option linter.unusedVariables false
set_option linter.unusedSimpArgs false

/-! ### laws_FnExactBuildOk: function 6 -/
def laws_FnExactBuildOk.f (k : Nat) (a0_0 : Int) (a0_1 : Int) (a0_2 : Int) (l0_3 : List (S86)) (a1_0 : Int) (l1_1 : List Int) : Option (Bool) := (laws_szManifest.f a0_0 a0_1 a0_2 l0_3 1048576).bind fun t542 => (if t542 < 0 then (some true) else ((laws_szBuild.f a1_0 l1_1 t542).bind fun t543 => (if t543 < 0 then (some true) else ((laws_toManifest.f k a0_0 a0_1 a0_2 l0_3).bind fun bt544 => ((laws_toBuild.f k a1_0 l1_1).bind fun bt550 => ((spec_BuildOk.f k bt544.1 bt544.2.1 bt544.2.2.1 bt544.2.2.2 bt550.1 bt550.2).bind fun t554 => ((laws_toManifest.f k a0_0 a0_1 a0_2 l0_3).bind fun bt555 => ((laws_toBuild.f k a1_0 l1_1).bind fun bt562 => ((impl_BuildOk.f k bt555.1 bt555.2.1 bt555.2.2.1 bt555.2.2.2 bt562.1 bt562.2).bind fun t567 => (if (t567 != t554) = true then (none) else ((laws_toManifest.f k a0_0 a0_1 a0_2 l0_3).bind fun bt568 => ((laws_eqManifest.f k bt555.1 bt555.2.1 bt555.2.2.1 bt555.2.2.2 bt568.1 bt568.2.1 bt568.2.2.1 bt568.2.2.2).bind fun t574 => (if t574 = true then ((laws_toBuild.f k a1_0 l1_1).bind fun bt575 => ((laws_eqBuild.f k bt562.1 bt562.2 bt575.1 bt575.2).bind fun t579 => (if t579 = true then (some true) else (none)))) else (none))))))))))))))
theorem laws_FnExactBuildOk.mono : ∀ a0 a1 a2 a3 a4 a5 k, LeO (laws_FnExactBuildOk.f k a0 a1 a2 a3 a4 a5) (laws_FnExactBuildOk.f (k + 1) a0 a1 a2 a3 a4 a5) := by
  intro a0 a1 a2 a3 a4 a5 k
  have m0_ := @impl_BuildOk.mono
  have m1_ := @laws_eqBuild.mono
  have m2_ := @laws_eqManifest.mono
  have m3_ := @laws_toBuild.mono
  have m4_ := @laws_toManifest.mono
  have m5_ := @spec_BuildOk.mono
  unfold laws_FnExactBuildOk.f
  exact LM
set_option maxHeartbeats 40000000 in
set_option maxRecDepth 100000 in
theorem laws_FnExactBuildOk.calls (k : Nat) (a0_0 : Int) (a0_1 : Int) (a0_2 : Int) (A0_3 : Option Addr) (c0_3 : Nat) (l0_3 : List (S86)) (a1_0 : Int) (A1_1 : Option Addr) (c1_1 : Nat) (l1_1 : List Int) (r : Bool) (w : World) (hr0_3 : Kd.C k86 w A0_3 l0_3.length l0_3) (hc0_3 : l0_3.length ≤ c0_3) (hr1_1 : Kd.C (Kd.int .u8) w A1_1 l1_1.length l1_1) (hc1_1 : l1_1.length ≤ c1_1) (h : laws_FnExactBuildOk.f k a0_0 a0_1 a0_2 l0_3 a1_0 l1_1 = some r) :
    Calls Try.prog 6 #[.agg #[.int .i64 a0_0, .int .i64 a0_1, .int .i64 a0_2, .slice A0_3 l0_3.length c0_3], .agg #[.int .i64 a1_0, .slice A1_1 l1_1.length c1_1]] w fun e w' => e = .returned (.bool r) ∧ Below w.heap.size w w' := by
  have hu24 := Try.underlying24
  have hu27 := Try.underlying27
  have hu33 := Try.underlying33
  have hu35 := Try.underlying35
  have HR0_3 := aM hr0_3
  have HC0_3 := aM hc0_3
  clear hr0_3 hc0_3
  have HR1_1 := aM hr1_1
  have HC1_1 := aM hc1_1
  clear hr1_1 hc1_1
  have HB := aM (Below.refl w.heap.size w)
  have H := h
  clear h
  unfold laws_FnExactBuildOk.f at H
  replace H := bE H
  obtain ⟨t542, A3, H⟩ := H
  go_enter Try.func6, Try.ntmps6
  go_wp2_with (first | ((with_reducible refine gate_dst (N := 2) rfl ?_); refine gBx 2 #[.int .i64 a0_0, .int .i64 a0_1, .int .i64 a0_2, .slice A0_3 l0_3.length c0_3] 24 ?_; intro gb540 hg w4 hbox hb; have BK540 := aM (hbox); have GW540 := aM ((by rw [hg]; exact (below_size TB) : w.heap.size ≤ gb540)); have GE540 := aM ((by rw [hg]; exact (below_size TB) : w.heap.size ≤ gb540)); replace HB := aM (below_step TB hb); clear hb hbox hg) | ((with_reducible refine gate_dst (N := 3) rfl ?_); refine gBx 3 #[.int .i64 a1_0, .slice A1_1 l1_1.length c1_1] 27 ?_; intro gb541 hg w5 hbox hb; have BK541 := aM (hbox); have GW541 := aM ((by rw [hg]; exact (below_size TB) : w.heap.size ≤ gb541)); have GE541 := aM ((by rw [hg]; exact (below_size TB) : w.heap.size ≤ gb541)); have NB540_541 := aM ((by rw [hg]; exact Nat.ne_of_lt (blk_lt (by have X_ := BK540.out; exact TX)) : gb540 ≠ gb541)); have NB541_540 := aM ((by rw [hg]; exact Nat.ne_of_gt (blk_lt (by have X_ := BK540.out; exact TX)) : gb541 ≠ gb540)); replace BK540 := aM (blk_below (by have X_ := BK540.out; exact TX) hb); replace HB := aM (below_step TB hb); clear hb hbox hg; have hnb6 := NB540_541.out; have hnc6 := NB541_540.out; obtain ⟨hcz7_0, hcz7_1, hcz7_2, hcz7_3⟩ := cz4 BK540.out; obtain ⟨hfz7_0, hfz7_1, hfz7_2, hfz7_3⟩ := fz4 BK540.out) | ((with_reducible refine gate_callee (f := 11) rfl ?_); (with_reducible refine gate_dst (N := 12) rfl ?_); generalize hG_ : wpList _ _ _ _ _ _ = G_))
  subst hG_
  by_cases c8 : t542 < 0
  · rw [if_pos c8] at H
    have c8b0 : decide (t542 < 0) = true := decide_eq_true c8
    clear c8
    obtain rfl := Option.some.inj H
    go_wp2_with (first | ((with_reducible refine gate_callee (f := 11) rfl ?_); refine gL (some 12) Try.func11 #[.agg #[.int .i64 a0_0, .int .i64 a0_1, .int .i64 a0_2, .slice A0_3 l0_3.length c0_3], .int .i64 1048576] ?_; (with_reducible refine (laws_szManifest.calls a0_0 a0_1 a0_2 _ _ l0_3 1048576 t542 _ ?side1 ?side2 A3.out).mono ?_); (case side1 => repeat (first | exact (Kd.C_below HR0_3.out TB) | (with_reducible refine Kd.C_alloc ?_ _) | (with_reducible refine Kd.C_drewN ?_ _) | (with_reducible refine Kd.C_drew ?_))); (case side2 => exact HC0_3.out); rintro e w9 ⟨rfl, hb⟩; refine ⟨_, rfl, ?_⟩; replace BK540 := aM (blk_below (by have X_ := BK540.out; exact TX) hb); replace BK541 := aM (blk_below (by have X_ := BK541.out; exact TX) hb); replace HB := aM (below_step TB hb); clear hb))
    go_ret
    exact ⟨by first | rfl | (simp [errW_none, errW_some] <;> rfl) | (simp [*, errW_none, errW_some] <;> rfl), TB⟩
  · rw [if_neg c8] at H
    have c8b0 : decide (t542 < 0) = false := decide_eq_false c8
    clear c8
    replace H := bE H
    obtain ⟨t543, A10, H⟩ := H
    go_wp2_with (first | ((with_reducible refine gate_callee (f := 11) rfl ?_); refine gL (some 12) Try.func11 #[.agg #[.int .i64 a0_0, .int .i64 a0_1, .int .i64 a0_2, .slice A0_3 l0_3.length c0_3], .int .i64 1048576] ?_; (with_reducible refine (laws_szManifest.calls a0_0 a0_1 a0_2 _ _ l0_3 1048576 t542 _ ?side1 ?side2 A3.out).mono ?_); (case side1 => repeat (first | exact (Kd.C_below HR0_3.out TB) | (with_reducible refine Kd.C_alloc ?_ _) | (with_reducible refine Kd.C_drewN ?_ _) | (with_reducible refine Kd.C_drew ?_))); (case side2 => exact HC0_3.out); rintro e w11 ⟨rfl, hb⟩; refine ⟨_, rfl, ?_⟩; replace BK540 := aM (blk_below (by have X_ := BK540.out; exact TX) hb); replace BK541 := aM (blk_below (by have X_ := BK541.out; exact TX) hb); replace HB := aM (below_step TB hb); clear hb; have hnb12 := NB541_540.out; have hnc12 := NB540_541.out; obtain ⟨hcz13_0, hcz13_1⟩ := cz2 BK541.out; obtain ⟨hfz13_0, hfz13_1⟩ := fz2 BK541.out) | ((with_reducible refine gate_callee (f := 12) rfl ?_); (with_reducible refine gate_dst (N := 17) rfl ?_); generalize hG_ : wpList _ _ _ _ _ _ = G_))
    subst hG_
    by_cases c14 : t543 < 0
    · rw [if_pos c14] at H
      have c14b0 : decide (t543 < 0) = true := decide_eq_true c14
      clear c14
      obtain rfl := Option.some.inj H
      go_wp2_with (first | ((with_reducible refine gate_callee (f := 12) rfl ?_); refine gL (some 17) Try.func12 #[.agg #[.int .i64 a1_0, .slice A1_1 l1_1.length c1_1], .int .i64 t542] ?_; (with_reducible refine (laws_szBuild.calls a1_0 _ _ l1_1 t542 t543 _ ?side1 ?side2 A10.out).mono ?_); (case side1 => repeat (first | exact (Kd.C_below HR1_1.out TB) | (with_reducible refine Kd.C_alloc ?_ _) | (with_reducible refine Kd.C_drewN ?_ _) | (with_reducible refine Kd.C_drew ?_))); (case side2 => exact HC1_1.out); rintro e w15 ⟨rfl, hb⟩; refine ⟨_, rfl, ?_⟩; replace BK540 := aM (blk_below (by have X_ := BK540.out; exact TX) hb); replace BK541 := aM (blk_below (by have X_ := BK541.out; exact TX) hb); replace HB := aM (below_step TB hb); clear hb))
      go_ret
      exact ⟨by first | rfl | (simp [errW_none, errW_some] <;> rfl) | (simp [*, errW_none, errW_some] <;> rfl), TB⟩
    · rw [if_neg c14] at H
      have c14b0 : decide (t543 < 0) = false := decide_eq_false c14
      clear c14
      replace H := bE H
      obtain ⟨⟨t544, t545, t546, t547⟩, A16, H⟩ := H
      dsimp only at H
      replace H := bE H
      obtain ⟨⟨t550, t551⟩, A17, H⟩ := H
      dsimp only at H
      replace H := bE H
      obtain ⟨t554, A18, H⟩ := H
      replace H := bE H
      obtain ⟨⟨t555, t556, t557, t558⟩, A19, H⟩ := H
      dsimp only at H
      replace H := bE H
      obtain ⟨⟨t562, t563⟩, A20, H⟩ := H
      dsimp only at H
      replace H := bE H
      obtain ⟨t567, A21, H⟩ := H
      replace H := ifM H
      obtain ⟨c22, H⟩ := H
      have c22b0 : (t567 != t554) = false := by simpa using c22
      (try (have c22b1 : decide (t567 = t554) = true := by simpa using c22))
      (try (have c22b2 : (t567 == t554) = true := by simpa using c22))
      clear c22
      replace H := bE H
      obtain ⟨⟨t568, t569, t570, t571⟩, A23, H⟩ := H
      dsimp only at H
      replace H := bE H
      obtain ⟨t574, A24, H⟩ := H
      replace H := ifN H
      obtain ⟨c25, H⟩ := H
      subst c25
      replace H := bE H
      obtain ⟨⟨t575, t576⟩, A26, H⟩ := H
      dsimp only at H
      replace H := bE H
      obtain ⟨t579, A27, H⟩ := H
      replace H := ifN H
      obtain ⟨c28, H⟩ := H
      subst c28
      obtain rfl := Option.some.inj H
      try go_wp2_with (first | ((with_reducible refine gate_callee (f := 12) rfl ?_); refine gL (some 17) Try.func12 #[.agg #[.int .i64 a1_0, .slice A1_1 l1_1.length c1_1], .int .i64 t542] ?_; (with_reducible refine (laws_szBuild.calls a1_0 _ _ l1_1 t542 t543 _ ?side1 ?side2 A10.out).mono ?_); (case side1 => repeat (first | exact (Kd.C_below HR1_1.out TB) | (with_reducible refine Kd.C_alloc ?_ _) | (with_reducible refine Kd.C_drewN ?_ _) | (with_reducible refine Kd.C_drew ?_))); (case side2 => exact HC1_1.out); rintro e w29 ⟨rfl, hb⟩; refine ⟨_, rfl, ?_⟩; replace BK540 := aM (blk_below (by have X_ := BK540.out; exact TX) hb); replace BK541 := aM (blk_below (by have X_ := BK541.out; exact TX) hb); replace HB := aM (below_step TB hb); clear hb))
      replace BK540 := aM (blk_drew BK540.out)
      replace BK541 := aM (blk_drew BK541.out)
      replace HB := aM (below_drew1 HB.out)
      refine start_ (n := 6) (S := fun w' => w'.cell? ⟨gb540, 0, none⟩ = some (.int .i64 a0_0) ∧ w'.cell? ⟨gb540, 1, none⟩ = some (.int .i64 a0_1) ∧ w'.cell? ⟨gb540, 2, none⟩ = some (.int .i64 a0_2) ∧ w'.cell? ⟨gb540, 3, none⟩ = some (.slice A0_3 l0_3.length c0_3) ∧ w'.cell? ⟨gb541, 0, none⟩ = some (.int .i64 a1_0) ∧ w'.cell? ⟨gb541, 1, none⟩ = some (.slice A1_1 l1_1.length c1_1)) (ds := []) (Array.replicate 6 false) (by kernel_rfl) rfl rfl ⟨(blk_cell BK540.out 0).trans rfl, (blk_cell BK540.out 1).trans rfl, (blk_cell BK540.out 2).trans rfl, (blk_cell BK540.out 3).trans rfl, (blk_cell BK541.out 0).trans rfl, (blk_cell BK541.out 1).trans rfl⟩ (fun hHeld => ?_)
      generalize w29.drew = w30 at BK540 BK541 HB hHeld ⊢
      refine pT 0 (some 20) ?_
      refine pT 2 (some 22) ?_
      refine pO 1 (some 21) (fun K hK => ?_)
      refine gG Try.func14 #[.agg #[.int .i64 a0_0, .int .i64 a0_1, .int .i64 a0_2, .slice A0_3 l0_3.length c0_3]] ?_
      with_reducible refine (laws_toManifest.calls k a0_0 a0_1 a0_2 _ _ l0_3 t544 t545 t546 t547 _ ?side1 ?side2 A16.out).mono ?_
      (case side1 => have X_ := (Kd.C_below HR0_3.out HB.out); exact TC)
      (case side2 => exact HC0_3.out)
      rintro e w31 ⟨v548, rfl, ho0, hb⟩
      refine ⟨_, rfl, ?_⟩
      have n0_ := aM (Kd.R_lower ho0 (below_size TB))
      have n1_ := aM (blk_below (by have X_ := BK540.out; exact TX) hb)
      have n2_ := aM (blk_below (by have X_ := BK541.out; exact TX) hb)
      have n3_ := aM (below_step TB hb)
      clear BK540
      clear BK541
      clear HB
      have HO549 := n0_
      have BK540 := n1_
      have BK541 := n2_
      have HB := n3_
      clear n0_ n1_ n2_ n3_
      (try clear hb)
      (try clear hb2)
      (try clear hk)
      (try clear hi)
      (try clear ho0)
      refine hK.out _ _ ⟨(blk_cell BK540.out 0).trans rfl, (blk_cell BK540.out 1).trans rfl, (blk_cell BK540.out 2).trans rfl, (blk_cell BK540.out 3).trans rfl, (blk_cell BK541.out 0).trans rfl, (blk_cell BK541.out 1).trans rfl⟩ (fun hHeld => ?_)
      clear hK K
      refine nR ?_
      refine pO 3 (some 23) (fun K hK => ?_)
      refine gG Try.func15 #[.agg #[.int .i64 a1_0, .slice A1_1 l1_1.length c1_1]] ?_
      with_reducible refine (laws_toBuild.calls k a1_0 _ _ l1_1 t550 t551 _ ?side1 ?side2 A17.out).mono ?_
      (case side1 => have X_ := (Kd.C_below HR1_1.out HB.out); exact TC)
      (case side2 => exact HC1_1.out)
      rintro e w32 ⟨v552, rfl, ho0, hb⟩
      refine ⟨_, rfl, ?_⟩
      have n0_ := aM (Kd.R_below (by have X_ := HO549.out; exact TR) hb)
      have n1_ := aM (Kd.R_lower ho0 (below_size TB))
      have n2_ := aM (blk_below (by have X_ := BK540.out; exact TX) hb)
      have n3_ := aM (blk_below (by have X_ := BK541.out; exact TX) hb)
      have n4_ := aM (below_step TB hb)
      clear HO549
      clear BK540
      clear BK541
      clear HB
      have HO549 := n0_
      have HO553 := n1_
      have BK540 := n2_
      have BK541 := n3_
      have HB := n4_
      clear n0_ n1_ n2_ n3_ n4_
      (try clear hb)
      (try clear hb2)
      (try clear hk)
      (try clear hi)
      (try clear ho0)
      obtain ⟨Ao33, co33, eo33⟩ := Kd.R_slice HO549.out
      (first | subst eo33 | (injection eo33 with f1_ f2_ f3_; have f4_ := f1_.symm; have f5_ := f3_.symm; clear f1_ f2_ f3_; subst f4_; subst f5_))
      obtain ⟨Ao34, co34, eo34⟩ := Kd.R_slice HO553.out
      (first | subst eo34 | (injection eo34 with f1_ f2_ f3_; have f4_ := f1_.symm; have f5_ := f3_.symm; clear f1_ f2_ f3_; subst f4_; subst f5_))
      refine hK.out _ _ ⟨(blk_cell BK540.out 0).trans rfl, (blk_cell BK540.out 1).trans rfl, (blk_cell BK540.out 2).trans rfl, (blk_cell BK540.out 3).trans rfl, (blk_cell BK541.out 0).trans rfl, (blk_cell BK541.out 1).trans rfl⟩ (fun hHeld => ?_)
      clear hK K
      refine nR ?_
      refine pO 4 (some 24) (fun K hK => ?_)
      refine gG Try.func28 #[.agg #[.int .i64 t544, .int .i64 t545, .int .i64 t546, .slice Ao33 t547.length co33], .agg #[.int .i64 t550, .slice Ao34 t551.length co34]] ?_
      with_reducible refine (spec_BuildOk.calls k t544 t545 t546 _ _ t547 t550 _ _ t551 t554 _ ?side1 ?side2 ?side3 ?side4 A18.out).mono ?_
      (case side1 => have X_ := (Kd.R_reads' HO549.out).2.2; exact TC)
      (case side2 => exact (Kd.R_reads' HO549.out).2.1)
      (case side3 => have X_ := (Kd.R_reads' HO553.out).2.2; exact TC)
      (case side4 => exact (Kd.R_reads' HO553.out).2.1)
      rintro e w35 ⟨rfl, hb⟩
      refine ⟨_, rfl, ?_⟩
      have n0_ := aM (Kd.R_below (by have X_ := HO549.out; exact TR) hb)
      have n1_ := aM (Kd.R_below (by have X_ := HO553.out; exact TR) hb)
      have n2_ := aM (blk_below (by have X_ := BK540.out; exact TX) hb)
      have n3_ := aM (blk_below (by have X_ := BK541.out; exact TX) hb)
      have n4_ := aM (below_step TB hb)
      clear HO549
      clear HO553
      clear BK540
      clear BK541
      clear HB
      have HO549 := n0_
      have HO553 := n1_
      have BK540 := n2_
      have BK541 := n3_
      have HB := n4_
      clear n0_ n1_ n2_ n3_ n4_
      (try clear hb)
      (try clear hb2)
      (try clear hk)
      (try clear hi)
      refine hK.out _ _ ⟨(blk_cell BK540.out 0).trans rfl, (blk_cell BK540.out 1).trans rfl, (blk_cell BK540.out 2).trans rfl, (blk_cell BK540.out 3).trans rfl, (blk_cell BK541.out 0).trans rfl, (blk_cell BK541.out 1).trans rfl⟩ (fun hHeld => ?_)
      clear hK K
      refine nR ?_
      refine pP 5 (some 6) ?_
      refine done_ (by kernel_rfl) ?_
      have hnb36 := NB540_541.out
      have hnc36 := NB541_540.out
      obtain ⟨hcz37_0, hcz37_1, hcz37_2, hcz37_3⟩ := cz4 BK540.out
      obtain ⟨hfz37_0, hfz37_1, hfz37_2, hfz37_3⟩ := fz4 BK540.out
      try go_wp2_with (first | ((with_reducible refine gate_callee (f := 14) rfl ?_); refine gL (some 26) Try.func14 #[.agg #[.int .i64 a0_0, .int .i64 a0_1, .int .i64 a0_2, .slice A0_3 l0_3.length c0_3]] ?_; (with_reducible refine (laws_toManifest.calls k a0_0 a0_1 a0_2 _ _ l0_3 t555 t556 t557 t558 _ ?side1 ?side2 A19.out).mono ?_); (case side1 => have X_ := (Kd.C_below HR0_3.out HB.out); exact TC); (case side2 => exact HC0_3.out); rintro e w38 ⟨v559, rfl, ho0, hb⟩; refine ⟨_, rfl, ?_⟩; have HO560 := aM (Kd.R_lower (Kd.R_new' ho0 (Kd.R_lt (by have X_ := HO549.out; exact TR))) (below_size TB)); replace HO549 := aM (Kd.R_elder' (by have X_ := HO549.out; exact TR) (Kd.R_base ho0) hb); replace HO553 := aM (Kd.R_below (by have X_ := HO553.out; exact TR) hb); replace BK540 := aM (blk_below (by have X_ := BK540.out; exact TX) hb); replace BK541 := aM (blk_below (by have X_ := BK541.out; exact TX) hb); replace HB := aM (below_step TB hb); clear ho0 hb) | ((with_reducible refine gate_dst (N := 7) rfl ?_); refine gBx 7 #[.int .i64 0, .int .i64 0, .int .i64 0, .slice none 0 0] 33 ?_; intro gb561 hg w39 hbox hb; have BK561 := aM (hbox); have GW561 := aM ((by rw [hg]; exact (below_size TB) : w.heap.size ≤ gb561)); have GE561 := aM ((by rw [hg]; exact (below_size TB) : w.heap.size ≤ gb561)); have NB540_561 := aM ((by rw [hg]; exact Nat.ne_of_lt (blk_lt (by have X_ := BK540.out; exact TX)) : gb540 ≠ gb561)); have NB561_540 := aM ((by rw [hg]; exact Nat.ne_of_gt (blk_lt (by have X_ := BK540.out; exact TX)) : gb561 ≠ gb540)); have NB541_561 := aM ((by rw [hg]; exact Nat.ne_of_lt (blk_lt (by have X_ := BK541.out; exact TX)) : gb541 ≠ gb561)); have NB561_541 := aM ((by rw [hg]; exact Nat.ne_of_gt (blk_lt (by have X_ := BK541.out; exact TX)) : gb561 ≠ gb541)); replace HO549 := aM (Kd.R_below (by have X_ := HO549.out; exact TR) hb); replace HO553 := aM (Kd.R_below (by have X_ := HO553.out; exact TR) hb); replace HO560 := aM (Kd.R_below (by have X_ := HO560.out; exact TR) hb); replace BK540 := aM (blk_below (by have X_ := BK540.out; exact TX) hb); replace BK541 := aM (blk_below (by have X_ := BK541.out; exact TX) hb); replace HB := aM (below_step TB hb); clear hb hbox hg; have hnb40 := NB561_540.out; have hnc40 := NB540_561.out; have hnb41 := NB561_541.out; have hnc41 := NB541_561.out; obtain ⟨hcz42_0, hcz42_1, hcz42_2, hcz42_3⟩ := cz4 BK561.out; obtain ⟨hfz42_0, hfz42_1, hfz42_2, hfz42_3⟩ := fz4 BK561.out; obtain ⟨Ao43, co43, eo43⟩ := Kd.R_slice HO560.out; subst eo43; obtain ⟨hcz44_0, hcz44_1⟩ := cz2 BK541.out; obtain ⟨hfz44_0, hfz44_1⟩ := fz2 BK541.out) | ((with_reducible refine gate_callee (f := 15) rfl ?_); refine gL (some 28) Try.func15 #[.agg #[.int .i64 a1_0, .slice A1_1 l1_1.length c1_1]] ?_; (with_reducible refine (laws_toBuild.calls k a1_0 _ _ l1_1 t562 t563 _ ?side1 ?side2 A20.out).mono ?_); (case side1 => exact Kd.C_below HR1_1.out TB); (case side2 => exact HC1_1.out); rintro e w45 ⟨v564, rfl, ho0, hb⟩; refine ⟨_, rfl, ?_⟩; have HO565 := aM (Kd.R_lower (Kd.R_new' ho0 (Kd.R_lt (by (with_reducible repeat (first | apply Kd.R_alloc | apply Kd.R_drewN | apply Kd.R_drew)); exact (R_off (Kd.R_types HO553.out BK561.out (by decide)) TO)))) (below_size TB)); replace HO549 := aM (Kd.R_below (by (with_reducible repeat (first | apply Kd.R_alloc | apply Kd.R_drewN | apply Kd.R_drew)); exact (R_off (Kd.R_types HO549.out BK561.out (by decide)) TO)) hb); replace HO553 := aM (Kd.R_elder' (by (with_reducible repeat (first | apply Kd.R_alloc | apply Kd.R_drewN | apply Kd.R_drew)); exact (R_off (Kd.R_types HO553.out BK561.out (by decide)) TO)) (Kd.R_base ho0) hb); replace HO560 := aM (Kd.R_below (by (with_reducible repeat (first | apply Kd.R_alloc | apply Kd.R_drewN | apply Kd.R_drew)); exact (R_off (Kd.R_types HO560.out BK561.out (by decide)) TO)) hb); replace BK540 := aM (blk_below (g := gb540) (o := .cells #[.int .i64 a0_0, .int .i64 a0_1, .int .i64 a0_2, .slice A0_3 l0_3.length c0_3] 24 (0, 0)) (by (with_reducible repeat (first | refine blk_drewN ?_ _ | refine blk_drew ?_ | refine blk_alloc ?_ _)); refine blk_far ?_ NB540_561.out _; (with_reducible repeat (first | refine blk_drewN ?_ _ | refine blk_drew ?_ | refine blk_alloc ?_ _)); refine blk_far ?_ NB540_561.out _; (with_reducible repeat (first | refine blk_drewN ?_ _ | refine blk_drew ?_ | refine blk_alloc ?_ _)); refine blk_far ?_ NB540_561.out _; (with_reducible repeat (first | refine blk_drewN ?_ _ | refine blk_drew ?_ | refine blk_alloc ?_ _)); refine blk_far ?_ NB540_561.out _; (with_reducible repeat (first | refine blk_drewN ?_ _ | refine blk_drew ?_ | refine blk_alloc ?_ _)); exact BK540.out) hb); replace BK541 := aM (blk_below (g := gb541) (o := .cells #[.int .i64 a1_0, .slice A1_1 l1_1.length c1_1] 27 (0, 0)) (by (with_reducible repeat (first | refine blk_drewN ?_ _ | refine blk_drew ?_ | refine blk_alloc ?_ _)); refine blk_far ?_ NB541_561.out _; (with_reducible repeat (first | refine blk_drewN ?_ _ | refine blk_drew ?_ | refine blk_alloc ?_ _)); refine blk_far ?_ NB541_561.out _; (with_reducible repeat (first | refine blk_drewN ?_ _ | refine blk_drew ?_ | refine blk_alloc ?_ _)); refine blk_far ?_ NB541_561.out _; (with_reducible repeat (first | refine blk_drewN ?_ _ | refine blk_drew ?_ | refine blk_alloc ?_ _)); refine blk_far ?_ NB541_561.out _; (with_reducible repeat (first | refine blk_drewN ?_ _ | refine blk_drew ?_ | refine blk_alloc ?_ _)); exact BK541.out) hb); replace BK561 := aM (blk_below (g := gb561) (o := .cells #[.int .i64 t555, .int .i64 t556, .int .i64 t557, .slice Ao43 t558.length co43] 33 (0, 0)) (by (with_reducible repeat (first | refine blk_drewN ?_ _ | refine blk_drew ?_ | refine blk_alloc ?_ _)); refine blk_put (cs := #[.int .i64 t555, .int .i64 t556, .int .i64 t557, .slice none 0 0]) ?_ 3 _ rfl; (with_reducible repeat (first | refine blk_drewN ?_ _ | refine blk_drew ?_ | refine blk_alloc ?_ _)); refine blk_put (cs := #[.int .i64 t555, .int .i64 t556, .int .i64 0, .slice none 0 0]) ?_ 2 _ rfl; (with_reducible repeat (first | refine blk_drewN ?_ _ | refine blk_drew ?_ | refine blk_alloc ?_ _)); refine blk_put (cs := #[.int .i64 t555, .int .i64 0, .int .i64 0, .slice none 0 0]) ?_ 1 _ rfl; (with_reducible repeat (first | refine blk_drewN ?_ _ | refine blk_drew ?_ | refine blk_alloc ?_ _)); refine blk_put (cs := #[.int .i64 0, .int .i64 0, .int .i64 0, .slice none 0 0]) ?_ 0 _ rfl; (with_reducible repeat (first | refine blk_drewN ?_ _ | refine blk_drew ?_ | refine blk_alloc ?_ _)); exact BK561.out) hb); replace HB := aM (below_step TB hb); clear ho0 hb) | ((with_reducible refine gate_dst (N := 8) rfl ?_); refine gBx 8 #[.int .i64 0, .slice none 0 0] 35 ?_; intro gb566 hg w46 hbox hb; have BK566 := aM (hbox); have GW566 := aM ((by rw [hg]; exact (below_size TB) : w.heap.size ≤ gb566)); have GE566 := aM ((by rw [hg]; exact (below_size TB) : w.heap.size ≤ gb566)); have NB540_566 := aM ((by rw [hg]; exact Nat.ne_of_lt (blk_lt (by have X_ := BK540.out; exact TX)) : gb540 ≠ gb566)); have NB566_540 := aM ((by rw [hg]; exact Nat.ne_of_gt (blk_lt (by have X_ := BK540.out; exact TX)) : gb566 ≠ gb540)); have NB541_566 := aM ((by rw [hg]; exact Nat.ne_of_lt (blk_lt (by have X_ := BK541.out; exact TX)) : gb541 ≠ gb566)); have NB566_541 := aM ((by rw [hg]; exact Nat.ne_of_gt (blk_lt (by have X_ := BK541.out; exact TX)) : gb566 ≠ gb541)); have NB561_566 := aM ((by rw [hg]; exact Nat.ne_of_lt (blk_lt (by have X_ := BK561.out; exact TX)) : gb561 ≠ gb566)); have NB566_561 := aM ((by rw [hg]; exact Nat.ne_of_gt (blk_lt (by have X_ := BK561.out; exact TX)) : gb566 ≠ gb561)); replace HO549 := aM (Kd.R_below (by have X_ := HO549.out; exact TR) hb); replace HO553 := aM (Kd.R_below (by have X_ := HO553.out; exact TR) hb); replace HO560 := aM (Kd.R_below (by have X_ := HO560.out; exact TR) hb); replace HO565 := aM (Kd.R_below (by have X_ := HO565.out; exact TR) hb); replace BK540 := aM (blk_below (by have X_ := BK540.out; exact TX) hb); replace BK541 := aM (blk_below (by have X_ := BK541.out; exact TX) hb); replace BK561 := aM (blk_below (by have X_ := BK561.out; exact TX) hb); replace HB := aM (below_step TB hb); clear hb hbox hg; have hnb47 := NB566_540.out; have hnc47 := NB540_566.out; have hnb48 := NB566_541.out; have hnc48 := NB541_566.out; have hnb49 := NB566_561.out; have hnc49 := NB561_566.out; obtain ⟨hcz50_0, hcz50_1⟩ := cz2 BK566.out; obtain ⟨hfz50_0, hfz50_1⟩ := fz2 BK566.out; obtain ⟨Ao51, co51, eo51⟩ := Kd.R_slice HO565.out; subst eo51; obtain ⟨hcz52_0, hcz52_1, hcz52_2, hcz52_3⟩ := cz4 BK561.out; obtain ⟨hfz52_0, hfz52_1, hfz52_2, hfz52_3⟩ := fz4 BK561.out) | ((with_reducible refine gate_callee (f := 29) rfl ?_); refine gL (some 31) Try.func29 #[.agg #[.int .i64 t555, .int .i64 t556, .int .i64 t557, .slice Ao43 t558.length co43], .agg #[.int .i64 t562, .slice Ao51 t563.length co51]] ?_; (with_reducible refine (impl_BuildOk.calls k t555 t556 t557 _ _ t558 t562 _ _ t563 t567 _ ?side1 ?side2 ?side3 ?side4 A21.out).mono ?_); (case side1 => refine (Kd.R_reads' (e := 72) (base := w.heap.size) (ok := fun k_ => (True ∧ some k_ ≠ (.slice Ao33 t547.length co33 : Value).ownBlock)) (n := t558.length) (c := co43) ?_).2.2; exact (by (with_reducible repeat (first | apply Kd.R_alloc | apply Kd.R_drewN | apply Kd.R_drew)); exact (R_off (Kd.R_types HO560.out BK566.out (by decide)) TO))); (case side2 => exact (Kd.R_reads' HO560.out).2.1); (case side3 => refine (Kd.R_reads' (e := 5) (base := w.heap.size) (ok := fun k_ => (True ∧ some k_ ≠ (.slice Ao34 t551.length co34 : Value).ownBlock)) (n := t563.length) (c := co51) ?_).2.2; exact (by (with_reducible repeat (first | apply Kd.R_alloc | apply Kd.R_drewN | apply Kd.R_drew)); exact (R_off (Kd.R_types HO565.out BK566.out (by decide)) TO))); (case side4 => exact (Kd.R_reads' HO565.out).2.1); rintro e w53 ⟨rfl, hb⟩; refine ⟨_, rfl, ?_⟩; replace HO549 := aM (Kd.R_below (by (with_reducible repeat (first | apply Kd.R_alloc | apply Kd.R_drewN | apply Kd.R_drew)); exact (R_off (Kd.R_types HO549.out BK566.out (by decide)) TO)) hb); replace HO553 := aM (Kd.R_below (by (with_reducible repeat (first | apply Kd.R_alloc | apply Kd.R_drewN | apply Kd.R_drew)); exact (R_off (Kd.R_types HO553.out BK566.out (by decide)) TO)) hb); replace HO560 := aM (Kd.R_below (by (with_reducible repeat (first | apply Kd.R_alloc | apply Kd.R_drewN | apply Kd.R_drew)); exact (R_off (Kd.R_types HO560.out BK566.out (by decide)) TO)) hb); replace HO565 := aM (Kd.R_below (by (with_reducible repeat (first | apply Kd.R_alloc | apply Kd.R_drewN | apply Kd.R_drew)); exact (R_off (Kd.R_types HO565.out BK566.out (by decide)) TO)) hb); replace BK540 := aM (blk_below (g := gb540) (o := .cells #[.int .i64 a0_0, .int .i64 a0_1, .int .i64 a0_2, .slice A0_3 l0_3.length c0_3] 24 (0, 0)) (by (with_reducible repeat (first | refine blk_drewN ?_ _ | refine blk_drew ?_ | refine blk_alloc ?_ _)); refine blk_far ?_ NB540_566.out _; (with_reducible repeat (first | refine blk_drewN ?_ _ | refine blk_drew ?_ | refine blk_alloc ?_ _)); refine blk_far ?_ NB540_566.out _; (with_reducible repeat (first | refine blk_drewN ?_ _ | refine blk_drew ?_ | refine blk_alloc ?_ _)); exact BK540.out) hb); replace BK541 := aM (blk_below (g := gb541) (o := .cells #[.int .i64 a1_0, .slice A1_1 l1_1.length c1_1] 27 (0, 0)) (by (with_reducible repeat (first | refine blk_drewN ?_ _ | refine blk_drew ?_ | refine blk_alloc ?_ _)); refine blk_far ?_ NB541_566.out _; (with_reducible repeat (first | refine blk_drewN ?_ _ | refine blk_drew ?_ | refine blk_alloc ?_ _)); refine blk_far ?_ NB541_566.out _; (with_reducible repeat (first | refine blk_drewN ?_ _ | refine blk_drew ?_ | refine blk_alloc ?_ _)); exact BK541.out) hb); replace BK561 := aM (blk_below (g := gb561) (o := .cells #[.int .i64 t555, .int .i64 t556, .int .i64 t557, .slice Ao43 t558.length co43] 33 (0, 0)) (by (with_reducible repeat (first | refine blk_drewN ?_ _ | refine blk_drew ?_ | refine blk_alloc ?_ _)); refine blk_far ?_ NB561_566.out _; (with_reducible repeat (first | refine blk_drewN ?_ _ | refine blk_drew ?_ | refine blk_alloc ?_ _)); refine blk_far ?_ NB561_566.out _; (with_reducible repeat (first | refine blk_drewN ?_ _ | refine blk_drew ?_ | refine blk_alloc ?_ _)); exact BK561.out) hb); replace BK566 := aM (blk_below (g := gb566) (o := .cells #[.int .i64 t562, .slice Ao51 t563.length co51] 35 (0, 0)) (by (with_reducible repeat (first | refine blk_drewN ?_ _ | refine blk_drew ?_ | refine blk_alloc ?_ _)); refine blk_put (cs := #[.int .i64 t562, .slice none 0 0]) ?_ 1 _ rfl; (with_reducible repeat (first | refine blk_drewN ?_ _ | refine blk_drew ?_ | refine blk_alloc ?_ _)); refine blk_put (cs := #[.int .i64 0, .slice none 0 0]) ?_ 0 _ rfl; (with_reducible repeat (first | refine blk_drewN ?_ _ | refine blk_drew ?_ | refine blk_alloc ?_ _)); exact BK566.out) hb); replace HB := aM (below_step TB hb); clear hb))
      replace HO549 := aM (Kd.R_drew HO549.out)
      replace HO553 := aM (Kd.R_drew HO553.out)
      replace HO560 := aM (Kd.R_drew HO560.out)
      replace HO565 := aM (Kd.R_drew HO565.out)
      replace BK540 := aM (blk_drew BK540.out)
      replace BK541 := aM (blk_drew BK541.out)
      replace BK561 := aM (blk_drew BK561.out)
      replace BK566 := aM (blk_drew BK566.out)
      replace HB := aM (below_drew1 HB.out)
      refine start_ (n := 5) (S := fun w' => w'.cell? ⟨gb561, 0, none⟩ = some (.int .i64 t555) ∧ w'.cell? ⟨gb561, 1, none⟩ = some (.int .i64 t556) ∧ w'.cell? ⟨gb561, 2, none⟩ = some (.int .i64 t557) ∧ w'.cell? ⟨gb561, 3, none⟩ = some (.slice Ao43 t558.length co43) ∧ w'.cell? ⟨gb540, 0, none⟩ = some (.int .i64 a0_0) ∧ w'.cell? ⟨gb540, 1, none⟩ = some (.int .i64 a0_1) ∧ w'.cell? ⟨gb540, 2, none⟩ = some (.int .i64 a0_2) ∧ w'.cell? ⟨gb540, 3, none⟩ = some (.slice A0_3 l0_3.length c0_3)) (ds := []) (Array.replicate 5 false) (by kernel_rfl) rfl rfl ⟨(blk_cell BK561.out 0).trans rfl, (blk_cell BK561.out 1).trans rfl, (blk_cell BK561.out 2).trans rfl, (blk_cell BK561.out 3).trans rfl, (blk_cell BK540.out 0).trans rfl, (blk_cell BK540.out 1).trans rfl, (blk_cell BK540.out 2).trans rfl, (blk_cell BK540.out 3).trans rfl⟩ (fun hHeld => ?_)
      generalize w53.drew = w54 at HO549 HO553 HO560 HO565 BK540 BK541 BK561 BK566 HB hHeld ⊢
      refine pT 0 (some 35) ?_
      refine pT 1 (some 36) ?_
      refine pO 2 (some 37) (fun K hK => ?_)
      refine gG Try.func14 #[.agg #[.int .i64 a0_0, .int .i64 a0_1, .int .i64 a0_2, .slice A0_3 l0_3.length c0_3]] ?_
      with_reducible refine (laws_toManifest.calls k a0_0 a0_1 a0_2 _ _ l0_3 t568 t569 t570 t571 _ ?side1 ?side2 A23.out).mono ?_
      (case side1 => have X_ := (Kd.C_below HR0_3.out HB.out); exact TC)
      (case side2 => exact HC0_3.out)
      rintro e w55 ⟨v572, rfl, ho0, hb⟩
      refine ⟨_, rfl, ?_⟩
      have n0_ := aM (Kd.R_elder' (by have X_ := HO549.out; exact TR) (Kd.R_base ho0) hb)
      have n1_ := aM (Kd.R_below (by have X_ := HO553.out; exact TR) hb)
      have n2_ := aM (Kd.R_elder' (by have X_ := HO560.out; exact TR) (Kd.R_base ho0) hb)
      have n3_ := aM (Kd.R_below (by have X_ := HO565.out; exact TR) hb)
      have n4_ := aM (Kd.R_lower (Kd.R_new' (Kd.R_new' ho0 (Kd.R_lt (by have X_ := HO549.out; exact TR))) (Kd.R_lt (by have X_ := HO560.out; exact TR))) (below_size TB))
      have n5_ := aM (blk_below (by have X_ := BK540.out; exact TX) hb)
      have n6_ := aM (blk_below (by have X_ := BK541.out; exact TX) hb)
      have n7_ := aM (blk_below (by have X_ := BK561.out; exact TX) hb)
      have n8_ := aM (blk_below (by have X_ := BK566.out; exact TX) hb)
      have n9_ := aM (below_step TB hb)
      clear HO549
      clear HO553
      clear HO560
      clear HO565
      clear BK540
      clear BK541
      clear BK561
      clear BK566
      clear HB
      have HO549 := n0_
      have HO553 := n1_
      have HO560 := n2_
      have HO565 := n3_
      have HO573 := n4_
      have BK540 := n5_
      have BK541 := n6_
      have BK561 := n7_
      have BK566 := n8_
      have HB := n9_
      clear n0_ n1_ n2_ n3_ n4_ n5_ n6_ n7_ n8_ n9_
      (try clear hb)
      (try clear hb2)
      (try clear hk)
      (try clear hi)
      (try clear ho0)
      obtain ⟨Ao56, co56, eo56⟩ := Kd.R_slice HO573.out
      (first | subst eo56 | (injection eo56 with f1_ f2_ f3_; have f4_ := f1_.symm; have f5_ := f3_.symm; clear f1_ f2_ f3_; subst f4_; subst f5_))
      refine hK.out _ _ ⟨(blk_cell BK561.out 0).trans rfl, (blk_cell BK561.out 1).trans rfl, (blk_cell BK561.out 2).trans rfl, (blk_cell BK561.out 3).trans rfl, (blk_cell BK540.out 0).trans rfl, (blk_cell BK540.out 1).trans rfl, (blk_cell BK540.out 2).trans rfl, (blk_cell BK540.out 3).trans rfl⟩ (fun hHeld => ?_)
      clear hK K
      refine nR ?_
      refine pO 3 (some 38) (fun K hK => ?_)
      refine gG Try.func17 #[.agg #[.int .i64 t555, .int .i64 t556, .int .i64 t557, .slice Ao43 t558.length co43], .agg #[.int .i64 t568, .int .i64 t569, .int .i64 t570, .slice Ao56 t571.length co56]] ?_
      with_reducible refine (laws_eqManifest.calls k t555 t556 t557 _ _ t558 t568 t569 t570 _ _ t571 true _ ?side1 ?side2 ?side3 ?side4 A24.out).mono ?_
      (case side1 => have X_ := (Kd.R_reads' HO560.out).2.2; exact TC)
      (case side2 => exact (Kd.R_reads' HO560.out).2.1)
      (case side3 => have X_ := (Kd.R_reads' HO573.out).2.2; exact TC)
      (case side4 => exact (Kd.R_reads' HO573.out).2.1)
      rintro e w57 ⟨rfl, hb⟩
      refine ⟨_, rfl, ?_⟩
      have n0_ := aM (Kd.R_below (by have X_ := HO549.out; exact TR) hb)
      have n1_ := aM (Kd.R_below (by have X_ := HO553.out; exact TR) hb)
      have n2_ := aM (Kd.R_below (by have X_ := HO560.out; exact TR) hb)
      have n3_ := aM (Kd.R_below (by have X_ := HO565.out; exact TR) hb)
      have n4_ := aM (Kd.R_below (by have X_ := HO573.out; exact TR) hb)
      have n5_ := aM (blk_below (by have X_ := BK540.out; exact TX) hb)
      have n6_ := aM (blk_below (by have X_ := BK541.out; exact TX) hb)
      have n7_ := aM (blk_below (by have X_ := BK561.out; exact TX) hb)
      have n8_ := aM (blk_below (by have X_ := BK566.out; exact TX) hb)
      have n9_ := aM (below_step TB hb)
      clear HO549
      clear HO553
      clear HO560
      clear HO565
      clear HO573
      clear BK540
      clear BK541
      clear BK561
      clear BK566
      clear HB
      have HO549 := n0_
      have HO553 := n1_
      have HO560 := n2_
      have HO565 := n3_
      have HO573 := n4_
      have BK540 := n5_
      have BK541 := n6_
      have BK561 := n7_
      have BK566 := n8_
      have HB := n9_
      clear n0_ n1_ n2_ n3_ n4_ n5_ n6_ n7_ n8_ n9_
      (try clear hb)
      (try clear hb2)
      (try clear hk)
      (try clear hi)
      refine hK.out _ _ ⟨(blk_cell BK561.out 0).trans rfl, (blk_cell BK561.out 1).trans rfl, (blk_cell BK561.out 2).trans rfl, (blk_cell BK561.out 3).trans rfl, (blk_cell BK540.out 0).trans rfl, (blk_cell BK540.out 1).trans rfl, (blk_cell BK540.out 2).trans rfl, (blk_cell BK540.out 3).trans rfl⟩ (fun hHeld => ?_)
      clear hK K
      refine nR ?_
      refine pP 4 (some 39) ?_
      refine done_ (by kernel_rfl) ?_
      try go_wp2
      replace HO549 := aM (Kd.R_drew HO549.out)
      replace HO553 := aM (Kd.R_drew HO553.out)
      replace HO560 := aM (Kd.R_drew HO560.out)
      replace HO565 := aM (Kd.R_drew HO565.out)
      replace HO573 := aM (Kd.R_drew HO573.out)
      replace BK540 := aM (blk_drew BK540.out)
      replace BK541 := aM (blk_drew BK541.out)
      replace BK561 := aM (blk_drew BK561.out)
      replace BK566 := aM (blk_drew BK566.out)
      replace HB := aM (below_drew1 HB.out)
      refine start_ (n := 5) (S := fun w' => w'.cell? ⟨gb566, 0, none⟩ = some (.int .i64 t562) ∧ w'.cell? ⟨gb566, 1, none⟩ = some (.slice Ao51 t563.length co51) ∧ w'.cell? ⟨gb541, 0, none⟩ = some (.int .i64 a1_0) ∧ w'.cell? ⟨gb541, 1, none⟩ = some (.slice A1_1 l1_1.length c1_1)) (ds := []) (Array.replicate 5 false) (by kernel_rfl) rfl rfl ⟨(blk_cell BK566.out 0).trans rfl, (blk_cell BK566.out 1).trans rfl, (blk_cell BK541.out 0).trans rfl, (blk_cell BK541.out 1).trans rfl⟩ (fun hHeld => ?_)
      generalize w57.drew = w58 at HO549 HO553 HO560 HO565 HO573 BK540 BK541 BK561 BK566 HB hHeld ⊢
      refine pT 0 (some 40) ?_
      refine pT 1 (some 41) ?_
      refine pO 2 (some 42) (fun K hK => ?_)
      refine gG Try.func15 #[.agg #[.int .i64 a1_0, .slice A1_1 l1_1.length c1_1]] ?_
      with_reducible refine (laws_toBuild.calls k a1_0 _ _ l1_1 t575 t576 _ ?side1 ?side2 A26.out).mono ?_
      (case side1 => have X_ := (Kd.C_below HR1_1.out HB.out); exact TC)
      (case side2 => exact HC1_1.out)
      rintro e w59 ⟨v577, rfl, ho0, hb⟩
      refine ⟨_, rfl, ?_⟩
      have n0_ := aM (Kd.R_below (by have X_ := HO549.out; exact TR) hb)
      have n1_ := aM (Kd.R_elder' (by have X_ := HO553.out; exact TR) (Kd.R_base ho0) hb)
      have n2_ := aM (Kd.R_below (by have X_ := HO560.out; exact TR) hb)
      have n3_ := aM (Kd.R_elder' (by have X_ := HO565.out; exact TR) (Kd.R_base ho0) hb)
      have n4_ := aM (Kd.R_below (by have X_ := HO573.out; exact TR) hb)
      have n5_ := aM (Kd.R_lower (Kd.R_new' (Kd.R_new' ho0 (Kd.R_lt (by have X_ := HO553.out; exact TR))) (Kd.R_lt (by have X_ := HO565.out; exact TR))) (below_size TB))
      have n6_ := aM (blk_below (by have X_ := BK540.out; exact TX) hb)
      have n7_ := aM (blk_below (by have X_ := BK541.out; exact TX) hb)
      have n8_ := aM (blk_below (by have X_ := BK561.out; exact TX) hb)
      have n9_ := aM (blk_below (by have X_ := BK566.out; exact TX) hb)
      have n10_ := aM (below_step TB hb)
      clear HO549
      clear HO553
      clear HO560
      clear HO565
      clear HO573
      clear BK540
      clear BK541
      clear BK561
      clear BK566
      clear HB
      have HO549 := n0_
      have HO553 := n1_
      have HO560 := n2_
      have HO565 := n3_
      have HO573 := n4_
      have HO578 := n5_
      have BK540 := n6_
      have BK541 := n7_
      have BK561 := n8_
      have BK566 := n9_
      have HB := n10_
      clear n0_ n1_ n2_ n3_ n4_ n5_ n6_ n7_ n8_ n9_ n10_
      (try clear hb)
      (try clear hb2)
      (try clear hk)
      (try clear hi)
      (try clear ho0)
      obtain ⟨Ao60, co60, eo60⟩ := Kd.R_slice HO578.out
      (first | subst eo60 | (injection eo60 with f1_ f2_ f3_; have f4_ := f1_.symm; have f5_ := f3_.symm; clear f1_ f2_ f3_; subst f4_; subst f5_))
      refine hK.out _ _ ⟨(blk_cell BK566.out 0).trans rfl, (blk_cell BK566.out 1).trans rfl, (blk_cell BK541.out 0).trans rfl, (blk_cell BK541.out 1).trans rfl⟩ (fun hHeld => ?_)
      clear hK K
      refine nR ?_
      refine pO 3 (some 43) (fun K hK => ?_)
      refine gG Try.func18 #[.agg #[.int .i64 t562, .slice Ao51 t563.length co51], .agg #[.int .i64 t575, .slice Ao60 t576.length co60]] ?_
      with_reducible refine (laws_eqBuild.calls k t562 _ _ t563 t575 _ _ t576 true _ ?side1 ?side2 ?side3 ?side4 A27.out).mono ?_
      (case side1 => have X_ := (Kd.R_reads' HO565.out).2.2; exact TC)
      (case side2 => exact (Kd.R_reads' HO565.out).2.1)
      (case side3 => have X_ := (Kd.R_reads' HO578.out).2.2; exact TC)
      (case side4 => exact (Kd.R_reads' HO578.out).2.1)
      rintro e w61 ⟨rfl, hb⟩
      refine ⟨_, rfl, ?_⟩
      have n0_ := aM (Kd.R_below (by have X_ := HO549.out; exact TR) hb)
      have n1_ := aM (Kd.R_below (by have X_ := HO553.out; exact TR) hb)
      have n2_ := aM (Kd.R_below (by have X_ := HO560.out; exact TR) hb)
      have n3_ := aM (Kd.R_below (by have X_ := HO565.out; exact TR) hb)
      have n4_ := aM (Kd.R_below (by have X_ := HO573.out; exact TR) hb)
      have n5_ := aM (Kd.R_below (by have X_ := HO578.out; exact TR) hb)
      have n6_ := aM (blk_below (by have X_ := BK540.out; exact TX) hb)
      have n7_ := aM (blk_below (by have X_ := BK541.out; exact TX) hb)
      have n8_ := aM (blk_below (by have X_ := BK561.out; exact TX) hb)
      have n9_ := aM (blk_below (by have X_ := BK566.out; exact TX) hb)
      have n10_ := aM (below_step TB hb)
      clear HO549
      clear HO553
      clear HO560
      clear HO565
      clear HO573
      clear HO578
      clear BK540
      clear BK541
      clear BK561
      clear BK566
      clear HB
      have HO549 := n0_
      have HO553 := n1_
      have HO560 := n2_
      have HO565 := n3_
      have HO573 := n4_
      have HO578 := n5_
      have BK540 := n6_
      have BK541 := n7_
      have BK561 := n8_
      have BK566 := n9_
      have HB := n10_
      clear n0_ n1_ n2_ n3_ n4_ n5_ n6_ n7_ n8_ n9_ n10_
      (try clear hb)
      (try clear hb2)
      (try clear hk)
      (try clear hi)
      refine hK.out _ _ ⟨(blk_cell BK566.out 0).trans rfl, (blk_cell BK566.out 1).trans rfl, (blk_cell BK541.out 0).trans rfl, (blk_cell BK541.out 1).trans rfl⟩ (fun hHeld => ?_)
      clear hK K
      refine nR ?_
      refine pP 4 (some 44) ?_
      refine done_ (by kernel_rfl) ?_
      try go_wp2
      go_ret
      exact ⟨by first | rfl | (simp [errW_none, errW_some] <;> rfl) | (simp [*, errW_none, errW_some] <;> rfl), TB⟩

end Go.Proofs.Ytnoplippaiblcaa.Q
