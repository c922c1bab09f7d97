/- Functions of the program as plain Lean functions, and that a call of each comes to what its function tells. Written by a program of this seat. -/
import Derived.Test.YtnoplippaiblcaaQ0
import Derived.Test.YtnoplippaiblcaaQ2
import Derived.Test.YtnoplippaiblcaaQ3
import Derived.Test.YtnoplippaiblcaaQ6
import Derived.Test.YtnoplippaiblcaaQ8
import Derived.Test.YtnoplippaiblcaaQ9
import Derived.Test.YtnoplippaiblcaaQ38
namespace Go.Proofs.Ytnoplippaiblcaa.Q
open Go.RowKit Go.Proofs.YtnoplippaiblcaaW.PrintWords Go.Proofs.YtnoplippaiblcaaW.PrintLast Go.Proofs.YtnoplippaiblcaaW.PrintMore
attribute [local go_sem] max2_int min2_int max_two min_two max_three min_three max_four min_four   -- for this text's walks alone
set_option linter.unusedVariables false
set_option linter.unusedSimpArgs false

/-! ### laws_FnExactWhole: function 7 -/
def laws_FnExactWhole.f (k : Nat) (a0_0 : Int) (a0_1 : Int) (a0_2 : Int) (l0_3 : List (S86)) (a1_0 : Int) (l1_1 : List Int) : Option (Bool) := (laws_szManifest.f a0_0 a0_1 a0_2 l0_3 1048576).bind fun t590 => (if t590 < 0 then (some true) else ((laws_szBuild.f a1_0 l1_1 t590).bind fun t591 => (if t591 < 0 then (some true) else ((laws_toManifest.f k a0_0 a0_1 a0_2 l0_3).bind fun bt592 => ((laws_toBuild.f k a1_0 l1_1).bind fun bt598 => ((spec_Whole.f k bt592.1 bt592.2.1 bt592.2.2.1 bt592.2.2.2 bt598.1 bt598.2).bind fun t602 => ((laws_toManifest.f k a0_0 a0_1 a0_2 l0_3).bind fun bt603 => ((laws_toBuild.f k a1_0 l1_1).bind fun bt610 => ((impl_Whole.f k bt603.1 bt603.2.1 bt603.2.2.1 bt603.2.2.2 bt610.1 bt610.2).bind fun t615 => (if (t615 != t602) = true then (none) else ((laws_toManifest.f k a0_0 a0_1 a0_2 l0_3).bind fun bt616 => ((laws_eqManifest.f k bt603.1 bt603.2.1 bt603.2.2.1 bt603.2.2.2 bt616.1 bt616.2.1 bt616.2.2.1 bt616.2.2.2).bind fun t622 => (if t622 = true then ((laws_toBuild.f k a1_0 l1_1).bind fun bt623 => ((laws_eqBuild.f k bt610.1 bt610.2 bt623.1 bt623.2).bind fun t627 => (if t627 = true then (some true) else (none)))) else (none))))))))))))))
theorem laws_FnExactWhole.mono : ∀ a0 a1 a2 a3 a4 a5 k, LeO (laws_FnExactWhole.f k a0 a1 a2 a3 a4 a5) (laws_FnExactWhole.f (k + 1) a0 a1 a2 a3 a4 a5) := by
  intro a0 a1 a2 a3 a4 a5 k
  have m0_ := @impl_Whole.mono
  have m1_ := @laws_eqBuild.mono
  have m2_ := @laws_eqManifest.mono
  have m3_ := @laws_toBuild.mono
  have m4_ := @laws_toManifest.mono
  have m5_ := @spec_Whole.mono
  unfold laws_FnExactWhole.f
  exact LM
set_option maxHeartbeats 40000000 in
set_option maxRecDepth 100000 in
theorem laws_FnExactWhole.calls (k : Nat) (a0_0 : Int) (a0_1 : Int) (a0_2 : Int) (A0_3 : Option Addr) (c0_3 : Nat) (l0_3 : List (S86)) (a1_0 : Int) (A1_1 : Option Addr) (c1_1 : Nat) (l1_1 : List Int) (r : Bool) (w : World) (hr0_3 : Kd.C k86 w A0_3 l0_3.length l0_3) (hc0_3 : l0_3.length ≤ c0_3) (hr1_1 : Kd.C (Kd.int .u8) w A1_1 l1_1.length l1_1) (hc1_1 : l1_1.length ≤ c1_1) (h : laws_FnExactWhole.f k a0_0 a0_1 a0_2 l0_3 a1_0 l1_1 = some r) :
    Calls Try.prog 7 #[.agg #[.int .i64 a0_0, .int .i64 a0_1, .int .i64 a0_2, .slice A0_3 l0_3.length c0_3], .agg #[.int .i64 a1_0, .slice A1_1 l1_1.length c1_1]] w fun e w' => e = .returned (.bool r) ∧ Below w.heap.size w w' := by
  have hu24 := Try.underlying24
  have hu27 := Try.underlying27
  have hu33 := Try.underlying33
  have hu35 := Try.underlying35
  have HR0_3 := aM hr0_3
  have HC0_3 := aM hc0_3
  clear hr0_3 hc0_3
  have HR1_1 := aM hr1_1
  have HC1_1 := aM hc1_1
  clear hr1_1 hc1_1
  have HB := aM (Below.refl w.heap.size w)
  have H := h
  clear h
  unfold laws_FnExactWhole.f at H
  replace H := bE H
  obtain ⟨t590, A3, H⟩ := H
  go_enter Try.func7, Try.ntmps7
  go_wp2_with (first | ((with_reducible refine gate_dst (N := 2) rfl ?_); refine gBx 2 #[.int .i64 a0_0, .int .i64 a0_1, .int .i64 a0_2, .slice A0_3 l0_3.length c0_3] 24 ?_; intro gb588 hg w4 hbox hb; have BK588 := aM (hbox); have GW588 := aM ((by rw [hg]; exact (below_size TB) : w.heap.size ≤ gb588)); have GE588 := aM ((by rw [hg]; exact (below_size TB) : w.heap.size ≤ gb588)); replace HB := aM (below_step TB hb); clear hb hbox hg) | ((with_reducible refine gate_dst (N := 3) rfl ?_); refine gBx 3 #[.int .i64 a1_0, .slice A1_1 l1_1.length c1_1] 27 ?_; intro gb589 hg w5 hbox hb; have BK589 := aM (hbox); have GW589 := aM ((by rw [hg]; exact (below_size TB) : w.heap.size ≤ gb589)); have GE589 := aM ((by rw [hg]; exact (below_size TB) : w.heap.size ≤ gb589)); have NB588_589 := aM ((by rw [hg]; exact Nat.ne_of_lt (blk_lt (by have X_ := BK588.out; exact TX)) : gb588 ≠ gb589)); have NB589_588 := aM ((by rw [hg]; exact Nat.ne_of_gt (blk_lt (by have X_ := BK588.out; exact TX)) : gb589 ≠ gb588)); replace BK588 := aM (blk_below (by have X_ := BK588.out; exact TX) hb); replace HB := aM (below_step TB hb); clear hb hbox hg; have hnb6 := NB588_589.out; have hnc6 := NB589_588.out; obtain ⟨hcz7_0, hcz7_1, hcz7_2, hcz7_3⟩ := cz4 BK588.out; obtain ⟨hfz7_0, hfz7_1, hfz7_2, hfz7_3⟩ := fz4 BK588.out) | ((with_reducible refine gate_callee (f := 11) rfl ?_); (with_reducible refine gate_dst (N := 12) rfl ?_); generalize hG_ : wpList _ _ _ _ _ _ = G_))
  subst hG_
  by_cases c8 : t590 < 0
  · rw [if_pos c8] at H
    have c8b0 : decide (t590 < 0) = true := decide_eq_true c8
    clear c8
    obtain rfl := Option.some.inj H
    go_wp2_with (first | ((with_reducible refine gate_callee (f := 11) rfl ?_); refine gL (some 12) Try.func11 #[.agg #[.int .i64 a0_0, .int .i64 a0_1, .int .i64 a0_2, .slice A0_3 l0_3.length c0_3], .int .i64 1048576] ?_; (with_reducible refine (laws_szManifest.calls a0_0 a0_1 a0_2 _ _ l0_3 1048576 t590 _ ?side1 ?side2 A3.out).mono ?_); (case side1 => repeat (first | exact (Kd.C_below HR0_3.out TB) | (with_reducible refine Kd.C_alloc ?_ _) | (with_reducible refine Kd.C_drewN ?_ _) | (with_reducible refine Kd.C_drew ?_))); (case side2 => exact HC0_3.out); rintro e w9 ⟨rfl, hb⟩; refine ⟨_, rfl, ?_⟩; replace BK588 := aM (blk_below (by have X_ := BK588.out; exact TX) hb); replace BK589 := aM (blk_below (by have X_ := BK589.out; exact TX) hb); replace HB := aM (below_step TB hb); clear hb))
    go_ret
    exact ⟨by first | rfl | (simp [errW_none, errW_some] <;> rfl) | (simp [*, errW_none, errW_some] <;> rfl), TB⟩
  · rw [if_neg c8] at H
    have c8b0 : decide (t590 < 0) = false := decide_eq_false c8
    clear c8
    replace H := bE H
    obtain ⟨t591, A10, H⟩ := H
    go_wp2_with (first | ((with_reducible refine gate_callee (f := 11) rfl ?_); refine gL (some 12) Try.func11 #[.agg #[.int .i64 a0_0, .int .i64 a0_1, .int .i64 a0_2, .slice A0_3 l0_3.length c0_3], .int .i64 1048576] ?_; (with_reducible refine (laws_szManifest.calls a0_0 a0_1 a0_2 _ _ l0_3 1048576 t590 _ ?side1 ?side2 A3.out).mono ?_); (case side1 => repeat (first | exact (Kd.C_below HR0_3.out TB) | (with_reducible refine Kd.C_alloc ?_ _) | (with_reducible refine Kd.C_drewN ?_ _) | (with_reducible refine Kd.C_drew ?_))); (case side2 => exact HC0_3.out); rintro e w11 ⟨rfl, hb⟩; refine ⟨_, rfl, ?_⟩; replace BK588 := aM (blk_below (by have X_ := BK588.out; exact TX) hb); replace BK589 := aM (blk_below (by have X_ := BK589.out; exact TX) hb); replace HB := aM (below_step TB hb); clear hb; have hnb12 := NB589_588.out; have hnc12 := NB588_589.out; obtain ⟨hcz13_0, hcz13_1⟩ := cz2 BK589.out; obtain ⟨hfz13_0, hfz13_1⟩ := fz2 BK589.out) | ((with_reducible refine gate_callee (f := 12) rfl ?_); (with_reducible refine gate_dst (N := 17) rfl ?_); generalize hG_ : wpList _ _ _ _ _ _ = G_))
    subst hG_
    by_cases c14 : t591 < 0
    · rw [if_pos c14] at H
      have c14b0 : decide (t591 < 0) = true := decide_eq_true c14
      clear c14
      obtain rfl := Option.some.inj H
      go_wp2_with (first | ((with_reducible refine gate_callee (f := 12) rfl ?_); refine gL (some 17) Try.func12 #[.agg #[.int .i64 a1_0, .slice A1_1 l1_1.length c1_1], .int .i64 t590] ?_; (with_reducible refine (laws_szBuild.calls a1_0 _ _ l1_1 t590 t591 _ ?side1 ?side2 A10.out).mono ?_); (case side1 => repeat (first | exact (Kd.C_below HR1_1.out TB) | (with_reducible refine Kd.C_alloc ?_ _) | (with_reducible refine Kd.C_drewN ?_ _) | (with_reducible refine Kd.C_drew ?_))); (case side2 => exact HC1_1.out); rintro e w15 ⟨rfl, hb⟩; refine ⟨_, rfl, ?_⟩; replace BK588 := aM (blk_below (by have X_ := BK588.out; exact TX) hb); replace BK589 := aM (blk_below (by have X_ := BK589.out; exact TX) hb); replace HB := aM (below_step TB hb); clear hb))
      go_ret
      exact ⟨by first | rfl | (simp [errW_none, errW_some] <;> rfl) | (simp [*, errW_none, errW_some] <;> rfl), TB⟩
    · rw [if_neg c14] at H
      have c14b0 : decide (t591 < 0) = false := decide_eq_false c14
      clear c14
      replace H := bE H
      obtain ⟨⟨t592, t593, t594, t595⟩, A16, H⟩ := H
      dsimp only at H
      replace H := bE H
      obtain ⟨⟨t598, t599⟩, A17, H⟩ := H
      dsimp only at H
      replace H := bE H
      obtain ⟨t602, A18, H⟩ := H
      replace H := bE H
      obtain ⟨⟨t603, t604, t605, t606⟩, A19, H⟩ := H
      dsimp only at H
      replace H := bE H
      obtain ⟨⟨t610, t611⟩, A20, H⟩ := H
      dsimp only at H
      replace H := bE H
      obtain ⟨t615, A21, H⟩ := H
      replace H := ifM H
      obtain ⟨c22, H⟩ := H
      have c22b0 : (t615 != t602) = false := by simpa using c22
      (try (have c22b1 : decide (t615 = t602) = true := by simpa using c22))
      (try (have c22b2 : (t615 == t602) = true := by simpa using c22))
      clear c22
      replace H := bE H
      obtain ⟨⟨t616, t617, t618, t619⟩, A23, H⟩ := H
      dsimp only at H
      replace H := bE H
      obtain ⟨t622, A24, H⟩ := H
      replace H := ifN H
      obtain ⟨c25, H⟩ := H
      subst c25
      replace H := bE H
      obtain ⟨⟨t623, t624⟩, A26, H⟩ := H
      dsimp only at H
      replace H := bE H
      obtain ⟨t627, A27, H⟩ := H
      replace H := ifN H
      obtain ⟨c28, H⟩ := H
      subst c28
      obtain rfl := Option.some.inj H
      try go_wp2_with (first | ((with_reducible refine gate_callee (f := 12) rfl ?_); refine gL (some 17) Try.func12 #[.agg #[.int .i64 a1_0, .slice A1_1 l1_1.length c1_1], .int .i64 t590] ?_; (with_reducible refine (laws_szBuild.calls a1_0 _ _ l1_1 t590 t591 _ ?side1 ?side2 A10.out).mono ?_); (case side1 => repeat (first | exact (Kd.C_below HR1_1.out TB) | (with_reducible refine Kd.C_alloc ?_ _) | (with_reducible refine Kd.C_drewN ?_ _) | (with_reducible refine Kd.C_drew ?_))); (case side2 => exact HC1_1.out); rintro e w29 ⟨rfl, hb⟩; refine ⟨_, rfl, ?_⟩; replace BK588 := aM (blk_below (by have X_ := BK588.out; exact TX) hb); replace BK589 := aM (blk_below (by have X_ := BK589.out; exact TX) hb); replace HB := aM (below_step TB hb); clear hb))
      replace BK588 := aM (blk_drew BK588.out)
      replace BK589 := aM (blk_drew BK589.out)
      replace HB := aM (below_drew1 HB.out)
      refine start_ (n := 6) (S := fun w' => w'.cell? ⟨gb588, 0, none⟩ = some (.int .i64 a0_0) ∧ w'.cell? ⟨gb588, 1, none⟩ = some (.int .i64 a0_1) ∧ w'.cell? ⟨gb588, 2, none⟩ = some (.int .i64 a0_2) ∧ w'.cell? ⟨gb588, 3, none⟩ = some (.slice A0_3 l0_3.length c0_3) ∧ w'.cell? ⟨gb589, 0, none⟩ = some (.int .i64 a1_0) ∧ w'.cell? ⟨gb589, 1, none⟩ = some (.slice A1_1 l1_1.length c1_1)) (ds := []) (Array.replicate 6 false) (by kernel_rfl) rfl rfl ⟨(blk_cell BK588.out 0).trans rfl, (blk_cell BK588.out 1).trans rfl, (blk_cell BK588.out 2).trans rfl, (blk_cell BK588.out 3).trans rfl, (blk_cell BK589.out 0).trans rfl, (blk_cell BK589.out 1).trans rfl⟩ (fun hHeld => ?_)
      generalize w29.drew = w30 at BK588 BK589 HB hHeld ⊢
      refine pT 0 (some 20) ?_
      refine pT 2 (some 22) ?_
      refine pO 1 (some 21) (fun K hK => ?_)
      refine gG Try.func14 #[.agg #[.int .i64 a0_0, .int .i64 a0_1, .int .i64 a0_2, .slice A0_3 l0_3.length c0_3]] ?_
      with_reducible refine (laws_toManifest.calls k a0_0 a0_1 a0_2 _ _ l0_3 t592 t593 t594 t595 _ ?side1 ?side2 A16.out).mono ?_
      (case side1 => have X_ := (Kd.C_below HR0_3.out HB.out); exact TC)
      (case side2 => exact HC0_3.out)
      rintro e w31 ⟨v596, rfl, ho0, hb⟩
      refine ⟨_, rfl, ?_⟩
      have n0_ := aM (Kd.R_lower ho0 (below_size TB))
      have n1_ := aM (blk_below (by have X_ := BK588.out; exact TX) hb)
      have n2_ := aM (blk_below (by have X_ := BK589.out; exact TX) hb)
      have n3_ := aM (below_step TB hb)
      clear BK588
      clear BK589
      clear HB
      have HO597 := n0_
      have BK588 := n1_
      have BK589 := n2_
      have HB := n3_
      clear n0_ n1_ n2_ n3_
      (try clear hb)
      (try clear hb2)
      (try clear hk)
      (try clear hi)
      (try clear ho0)
      refine hK.out _ _ ⟨(blk_cell BK588.out 0).trans rfl, (blk_cell BK588.out 1).trans rfl, (blk_cell BK588.out 2).trans rfl, (blk_cell BK588.out 3).trans rfl, (blk_cell BK589.out 0).trans rfl, (blk_cell BK589.out 1).trans rfl⟩ (fun hHeld => ?_)
      clear hK K
      refine nR ?_
      refine pO 3 (some 23) (fun K hK => ?_)
      refine gG Try.func15 #[.agg #[.int .i64 a1_0, .slice A1_1 l1_1.length c1_1]] ?_
      with_reducible refine (laws_toBuild.calls k a1_0 _ _ l1_1 t598 t599 _ ?side1 ?side2 A17.out).mono ?_
      (case side1 => have X_ := (Kd.C_below HR1_1.out HB.out); exact TC)
      (case side2 => exact HC1_1.out)
      rintro e w32 ⟨v600, rfl, ho0, hb⟩
      refine ⟨_, rfl, ?_⟩
      have n0_ := aM (Kd.R_below (by have X_ := HO597.out; exact TR) hb)
      have n1_ := aM (Kd.R_lower ho0 (below_size TB))
      have n2_ := aM (blk_below (by have X_ := BK588.out; exact TX) hb)
      have n3_ := aM (blk_below (by have X_ := BK589.out; exact TX) hb)
      have n4_ := aM (below_step TB hb)
      clear HO597
      clear BK588
      clear BK589
      clear HB
      have HO597 := n0_
      have HO601 := n1_
      have BK588 := n2_
      have BK589 := n3_
      have HB := n4_
      clear n0_ n1_ n2_ n3_ n4_
      (try clear hb)
      (try clear hb2)
      (try clear hk)
      (try clear hi)
      (try clear ho0)
      obtain ⟨Ao33, co33, eo33⟩ := Kd.R_slice HO597.out
      (first | subst eo33 | (injection eo33 with f1_ f2_ f3_; have f4_ := f1_.symm; have f5_ := f3_.symm; clear f1_ f2_ f3_; subst f4_; subst f5_))
      obtain ⟨Ao34, co34, eo34⟩ := Kd.R_slice HO601.out
      (first | subst eo34 | (injection eo34 with f1_ f2_ f3_; have f4_ := f1_.symm; have f5_ := f3_.symm; clear f1_ f2_ f3_; subst f4_; subst f5_))
      refine hK.out _ _ ⟨(blk_cell BK588.out 0).trans rfl, (blk_cell BK588.out 1).trans rfl, (blk_cell BK588.out 2).trans rfl, (blk_cell BK588.out 3).trans rfl, (blk_cell BK589.out 0).trans rfl, (blk_cell BK589.out 1).trans rfl⟩ (fun hHeld => ?_)
      clear hK K
      refine nR ?_
      refine pO 4 (some 24) (fun K hK => ?_)
      refine gG Try.func30 #[.agg #[.int .i64 t592, .int .i64 t593, .int .i64 t594, .slice Ao33 t595.length co33], .agg #[.int .i64 t598, .slice Ao34 t599.length co34]] ?_
      with_reducible refine (spec_Whole.calls k t592 t593 t594 _ _ t595 t598 _ _ t599 t602 _ ?side1 ?side2 ?side3 ?side4 A18.out).mono ?_
      (case side1 => have X_ := (Kd.R_reads' HO597.out).2.2; exact TC)
      (case side2 => exact (Kd.R_reads' HO597.out).2.1)
      (case side3 => have X_ := (Kd.R_reads' HO601.out).2.2; exact TC)
      (case side4 => exact (Kd.R_reads' HO601.out).2.1)
      rintro e w35 ⟨rfl, hb⟩
      refine ⟨_, rfl, ?_⟩
      have n0_ := aM (Kd.R_below (by have X_ := HO597.out; exact TR) hb)
      have n1_ := aM (Kd.R_below (by have X_ := HO601.out; exact TR) hb)
      have n2_ := aM (blk_below (by have X_ := BK588.out; exact TX) hb)
      have n3_ := aM (blk_below (by have X_ := BK589.out; exact TX) hb)
      have n4_ := aM (below_step TB hb)
      clear HO597
      clear HO601
      clear BK588
      clear BK589
      clear HB
      have HO597 := n0_
      have HO601 := n1_
      have BK588 := n2_
      have BK589 := n3_
      have HB := n4_
      clear n0_ n1_ n2_ n3_ n4_
      (try clear hb)
      (try clear hb2)
      (try clear hk)
      (try clear hi)
      refine hK.out _ _ ⟨(blk_cell BK588.out 0).trans rfl, (blk_cell BK588.out 1).trans rfl, (blk_cell BK588.out 2).trans rfl, (blk_cell BK588.out 3).trans rfl, (blk_cell BK589.out 0).trans rfl, (blk_cell BK589.out 1).trans rfl⟩ (fun hHeld => ?_)
      clear hK K
      refine nR ?_
      refine pP 5 (some 6) ?_
      refine done_ (by kernel_rfl) ?_
      have hnb36 := NB588_589.out
      have hnc36 := NB589_588.out
      obtain ⟨hcz37_0, hcz37_1, hcz37_2, hcz37_3⟩ := cz4 BK588.out
      obtain ⟨hfz37_0, hfz37_1, hfz37_2, hfz37_3⟩ := fz4 BK588.out
      try go_wp2_with (first | ((with_reducible refine gate_callee (f := 14) rfl ?_); refine gL (some 26) Try.func14 #[.agg #[.int .i64 a0_0, .int .i64 a0_1, .int .i64 a0_2, .slice A0_3 l0_3.length c0_3]] ?_; (with_reducible refine (laws_toManifest.calls k a0_0 a0_1 a0_2 _ _ l0_3 t603 t604 t605 t606 _ ?side1 ?side2 A19.out).mono ?_); (case side1 => have X_ := (Kd.C_below HR0_3.out HB.out); exact TC); (case side2 => exact HC0_3.out); rintro e w38 ⟨v607, rfl, ho0, hb⟩; refine ⟨_, rfl, ?_⟩; have HO608 := aM (Kd.R_lower (Kd.R_new' ho0 (Kd.R_lt (by have X_ := HO597.out; exact TR))) (below_size TB)); replace HO597 := aM (Kd.R_elder' (by have X_ := HO597.out; exact TR) (Kd.R_base ho0) hb); replace HO601 := aM (Kd.R_below (by have X_ := HO601.out; exact TR) hb); replace BK588 := aM (blk_below (by have X_ := BK588.out; exact TX) hb); replace BK589 := aM (blk_below (by have X_ := BK589.out; exact TX) hb); replace HB := aM (below_step TB hb); clear ho0 hb) | ((with_reducible refine gate_dst (N := 7) rfl ?_); refine gBx 7 #[.int .i64 0, .int .i64 0, .int .i64 0, .slice none 0 0] 33 ?_; intro gb609 hg w39 hbox hb; have BK609 := aM (hbox); have GW609 := aM ((by rw [hg]; exact (below_size TB) : w.heap.size ≤ gb609)); have GE609 := aM ((by rw [hg]; exact (below_size TB) : w.heap.size ≤ gb609)); have NB588_609 := aM ((by rw [hg]; exact Nat.ne_of_lt (blk_lt (by have X_ := BK588.out; exact TX)) : gb588 ≠ gb609)); have NB609_588 := aM ((by rw [hg]; exact Nat.ne_of_gt (blk_lt (by have X_ := BK588.out; exact TX)) : gb609 ≠ gb588)); have NB589_609 := aM ((by rw [hg]; exact Nat.ne_of_lt (blk_lt (by have X_ := BK589.out; exact TX)) : gb589 ≠ gb609)); have NB609_589 := aM ((by rw [hg]; exact Nat.ne_of_gt (blk_lt (by have X_ := BK589.out; exact TX)) : gb609 ≠ gb589)); replace HO597 := aM (Kd.R_below (by have X_ := HO597.out; exact TR) hb); replace HO601 := aM (Kd.R_below (by have X_ := HO601.out; exact TR) hb); replace HO608 := aM (Kd.R_below (by have X_ := HO608.out; exact TR) hb); replace BK588 := aM (blk_below (by have X_ := BK588.out; exact TX) hb); replace BK589 := aM (blk_below (by have X_ := BK589.out; exact TX) hb); replace HB := aM (below_step TB hb); clear hb hbox hg; have hnb40 := NB609_588.out; have hnc40 := NB588_609.out; have hnb41 := NB609_589.out; have hnc41 := NB589_609.out; obtain ⟨hcz42_0, hcz42_1, hcz42_2, hcz42_3⟩ := cz4 BK609.out; obtain ⟨hfz42_0, hfz42_1, hfz42_2, hfz42_3⟩ := fz4 BK609.out; obtain ⟨Ao43, co43, eo43⟩ := Kd.R_slice HO608.out; subst eo43; obtain ⟨hcz44_0, hcz44_1⟩ := cz2 BK589.out; obtain ⟨hfz44_0, hfz44_1⟩ := fz2 BK589.out) | ((with_reducible refine gate_callee (f := 15) rfl ?_); refine gL (some 28) Try.func15 #[.agg #[.int .i64 a1_0, .slice A1_1 l1_1.length c1_1]] ?_; (with_reducible refine (laws_toBuild.calls k a1_0 _ _ l1_1 t610 t611 _ ?side1 ?side2 A20.out).mono ?_); (case side1 => exact Kd.C_below HR1_1.out TB); (case side2 => exact HC1_1.out); rintro e w45 ⟨v612, rfl, ho0, hb⟩; refine ⟨_, rfl, ?_⟩; have HO613 := aM (Kd.R_lower (Kd.R_new' ho0 (Kd.R_lt (by (with_reducible repeat (first | apply Kd.R_alloc | apply Kd.R_drewN | apply Kd.R_drew)); exact (R_off (Kd.R_types HO601.out BK609.out (by decide)) TO)))) (below_size TB)); replace HO597 := aM (Kd.R_below (by (with_reducible repeat (first | apply Kd.R_alloc | apply Kd.R_drewN | apply Kd.R_drew)); exact (R_off (Kd.R_types HO597.out BK609.out (by decide)) TO)) hb); replace HO601 := aM (Kd.R_elder' (by (with_reducible repeat (first | apply Kd.R_alloc | apply Kd.R_drewN | apply Kd.R_drew)); exact (R_off (Kd.R_types HO601.out BK609.out (by decide)) TO)) (Kd.R_base ho0) hb); replace HO608 := aM (Kd.R_below (by (with_reducible repeat (first | apply Kd.R_alloc | apply Kd.R_drewN | apply Kd.R_drew)); exact (R_off (Kd.R_types HO608.out BK609.out (by decide)) TO)) hb); replace BK588 := aM (blk_below (g := gb588) (o := .cells #[.int .i64 a0_0, .int .i64 a0_1, .int .i64 a0_2, .slice A0_3 l0_3.length c0_3] 24 (0, 0)) (by (with_reducible repeat (first | refine blk_drewN ?_ _ | refine blk_drew ?_ | refine blk_alloc ?_ _)); refine blk_far ?_ NB588_609.out _; (with_reducible repeat (first | refine blk_drewN ?_ _ | refine blk_drew ?_ | refine blk_alloc ?_ _)); refine blk_far ?_ NB588_609.out _; (with_reducible repeat (first | refine blk_drewN ?_ _ | refine blk_drew ?_ | refine blk_alloc ?_ _)); refine blk_far ?_ NB588_609.out _; (with_reducible repeat (first | refine blk_drewN ?_ _ | refine blk_drew ?_ | refine blk_alloc ?_ _)); refine blk_far ?_ NB588_609.out _; (with_reducible repeat (first | refine blk_drewN ?_ _ | refine blk_drew ?_ | refine blk_alloc ?_ _)); exact BK588.out) hb); replace BK589 := aM (blk_below (g := gb589) (o := .cells #[.int .i64 a1_0, .slice A1_1 l1_1.length c1_1] 27 (0, 0)) (by (with_reducible repeat (first | refine blk_drewN ?_ _ | refine blk_drew ?_ | refine blk_alloc ?_ _)); refine blk_far ?_ NB589_609.out _; (with_reducible repeat (first | refine blk_drewN ?_ _ | refine blk_drew ?_ | refine blk_alloc ?_ _)); refine blk_far ?_ NB589_609.out _; (with_reducible repeat (first | refine blk_drewN ?_ _ | refine blk_drew ?_ | refine blk_alloc ?_ _)); refine blk_far ?_ NB589_609.out _; (with_reducible repeat (first | refine blk_drewN ?_ _ | refine blk_drew ?_ | refine blk_alloc ?_ _)); refine blk_far ?_ NB589_609.out _; (with_reducible repeat (first | refine blk_drewN ?_ _ | refine blk_drew ?_ | refine blk_alloc ?_ _)); exact BK589.out) hb); replace BK609 := aM (blk_below (g := gb609) (o := .cells #[.int .i64 t603, .int .i64 t604, .int .i64 t605, .slice Ao43 t606.length co43] 33 (0, 0)) (by (with_reducible repeat (first | refine blk_drewN ?_ _ | refine blk_drew ?_ | refine blk_alloc ?_ _)); refine blk_put (cs := #[.int .i64 t603, .int .i64 t604, .int .i64 t605, .slice none 0 0]) ?_ 3 _ rfl; (with_reducible repeat (first | refine blk_drewN ?_ _ | refine blk_drew ?_ | refine blk_alloc ?_ _)); refine blk_put (cs := #[.int .i64 t603, .int .i64 t604, .int .i64 0, .slice none 0 0]) ?_ 2 _ rfl; (with_reducible repeat (first | refine blk_drewN ?_ _ | refine blk_drew ?_ | refine blk_alloc ?_ _)); refine blk_put (cs := #[.int .i64 t603, .int .i64 0, .int .i64 0, .slice none 0 0]) ?_ 1 _ rfl; (with_reducible repeat (first | refine blk_drewN ?_ _ | refine blk_drew ?_ | refine blk_alloc ?_ _)); refine blk_put (cs := #[.int .i64 0, .int .i64 0, .int .i64 0, .slice none 0 0]) ?_ 0 _ rfl; (with_reducible repeat (first | refine blk_drewN ?_ _ | refine blk_drew ?_ | refine blk_alloc ?_ _)); exact BK609.out) hb); replace HB := aM (below_step TB hb); clear ho0 hb) | ((with_reducible refine gate_dst (N := 8) rfl ?_); refine gBx 8 #[.int .i64 0, .slice none 0 0] 35 ?_; intro gb614 hg w46 hbox hb; have BK614 := aM (hbox); have GW614 := aM ((by rw [hg]; exact (below_size TB) : w.heap.size ≤ gb614)); have GE614 := aM ((by rw [hg]; exact (below_size TB) : w.heap.size ≤ gb614)); have NB588_614 := aM ((by rw [hg]; exact Nat.ne_of_lt (blk_lt (by have X_ := BK588.out; exact TX)) : gb588 ≠ gb614)); have NB614_588 := aM ((by rw [hg]; exact Nat.ne_of_gt (blk_lt (by have X_ := BK588.out; exact TX)) : gb614 ≠ gb588)); have NB589_614 := aM ((by rw [hg]; exact Nat.ne_of_lt (blk_lt (by have X_ := BK589.out; exact TX)) : gb589 ≠ gb614)); have NB614_589 := aM ((by rw [hg]; exact Nat.ne_of_gt (blk_lt (by have X_ := BK589.out; exact TX)) : gb614 ≠ gb589)); have NB609_614 := aM ((by rw [hg]; exact Nat.ne_of_lt (blk_lt (by have X_ := BK609.out; exact TX)) : gb609 ≠ gb614)); have NB614_609 := aM ((by rw [hg]; exact Nat.ne_of_gt (blk_lt (by have X_ := BK609.out; exact TX)) : gb614 ≠ gb609)); replace HO597 := aM (Kd.R_below (by have X_ := HO597.out; exact TR) hb); replace HO601 := aM (Kd.R_below (by have X_ := HO601.out; exact TR) hb); replace HO608 := aM (Kd.R_below (by have X_ := HO608.out; exact TR) hb); replace HO613 := aM (Kd.R_below (by have X_ := HO613.out; exact TR) hb); replace BK588 := aM (blk_below (by have X_ := BK588.out; exact TX) hb); replace BK589 := aM (blk_below (by have X_ := BK589.out; exact TX) hb); replace BK609 := aM (blk_below (by have X_ := BK609.out; exact TX) hb); replace HB := aM (below_step TB hb); clear hb hbox hg; have hnb47 := NB614_588.out; have hnc47 := NB588_614.out; have hnb48 := NB614_589.out; have hnc48 := NB589_614.out; have hnb49 := NB614_609.out; have hnc49 := NB609_614.out; obtain ⟨hcz50_0, hcz50_1⟩ := cz2 BK614.out; obtain ⟨hfz50_0, hfz50_1⟩ := fz2 BK614.out; obtain ⟨Ao51, co51, eo51⟩ := Kd.R_slice HO613.out; subst eo51; obtain ⟨hcz52_0, hcz52_1, hcz52_2, hcz52_3⟩ := cz4 BK609.out; obtain ⟨hfz52_0, hfz52_1, hfz52_2, hfz52_3⟩ := fz4 BK609.out) | ((with_reducible refine gate_callee (f := 31) rfl ?_); refine gL (some 31) Try.func31 #[.agg #[.int .i64 t603, .int .i64 t604, .int .i64 t605, .slice Ao43 t606.length co43], .agg #[.int .i64 t610, .slice Ao51 t611.length co51]] ?_; (with_reducible refine (impl_Whole.calls k t603 t604 t605 _ _ t606 t610 _ _ t611 t615 _ ?side1 ?side2 ?side3 ?side4 A21.out).mono ?_); (case side1 => refine (Kd.R_reads' (e := 72) (base := w.heap.size) (ok := fun k_ => (True ∧ some k_ ≠ (.slice Ao33 t595.length co33 : Value).ownBlock)) (n := t606.length) (c := co43) ?_).2.2; exact (by (with_reducible repeat (first | apply Kd.R_alloc | apply Kd.R_drewN | apply Kd.R_drew)); exact (R_off (Kd.R_types HO608.out BK614.out (by decide)) TO))); (case side2 => exact (Kd.R_reads' HO608.out).2.1); (case side3 => refine (Kd.R_reads' (e := 5) (base := w.heap.size) (ok := fun k_ => (True ∧ some k_ ≠ (.slice Ao34 t599.length co34 : Value).ownBlock)) (n := t611.length) (c := co51) ?_).2.2; exact (by (with_reducible repeat (first | apply Kd.R_alloc | apply Kd.R_drewN | apply Kd.R_drew)); exact (R_off (Kd.R_types HO613.out BK614.out (by decide)) TO))); (case side4 => exact (Kd.R_reads' HO613.out).2.1); rintro e w53 ⟨rfl, hb⟩; refine ⟨_, rfl, ?_⟩; replace HO597 := aM (Kd.R_below (by (with_reducible repeat (first | apply Kd.R_alloc | apply Kd.R_drewN | apply Kd.R_drew)); exact (R_off (Kd.R_types HO597.out BK614.out (by decide)) TO)) hb); replace HO601 := aM (Kd.R_below (by (with_reducible repeat (first | apply Kd.R_alloc | apply Kd.R_drewN | apply Kd.R_drew)); exact (R_off (Kd.R_types HO601.out BK614.out (by decide)) TO)) hb); replace HO608 := aM (Kd.R_below (by (with_reducible repeat (first | apply Kd.R_alloc | apply Kd.R_drewN | apply Kd.R_drew)); exact (R_off (Kd.R_types HO608.out BK614.out (by decide)) TO)) hb); replace HO613 := aM (Kd.R_below (by (with_reducible repeat (first | apply Kd.R_alloc | apply Kd.R_drewN | apply Kd.R_drew)); exact (R_off (Kd.R_types HO613.out BK614.out (by decide)) TO)) hb); replace BK588 := aM (blk_below (g := gb588) (o := .cells #[.int .i64 a0_0, .int .i64 a0_1, .int .i64 a0_2, .slice A0_3 l0_3.length c0_3] 24 (0, 0)) (by (with_reducible repeat (first | refine blk_drewN ?_ _ | refine blk_drew ?_ | refine blk_alloc ?_ _)); refine blk_far ?_ NB588_614.out _; (with_reducible repeat (first | refine blk_drewN ?_ _ | refine blk_drew ?_ | refine blk_alloc ?_ _)); refine blk_far ?_ NB588_614.out _; (with_reducible repeat (first | refine blk_drewN ?_ _ | refine blk_drew ?_ | refine blk_alloc ?_ _)); exact BK588.out) hb); replace BK589 := aM (blk_below (g := gb589) (o := .cells #[.int .i64 a1_0, .slice A1_1 l1_1.length c1_1] 27 (0, 0)) (by (with_reducible repeat (first | refine blk_drewN ?_ _ | refine blk_drew ?_ | refine blk_alloc ?_ _)); refine blk_far ?_ NB589_614.out _; (with_reducible repeat (first | refine blk_drewN ?_ _ | refine blk_drew ?_ | refine blk_alloc ?_ _)); refine blk_far ?_ NB589_614.out _; (with_reducible repeat (first | refine blk_drewN ?_ _ | refine blk_drew ?_ | refine blk_alloc ?_ _)); exact BK589.out) hb); replace BK609 := aM (blk_below (g := gb609) (o := .cells #[.int .i64 t603, .int .i64 t604, .int .i64 t605, .slice Ao43 t606.length co43] 33 (0, 0)) (by (with_reducible repeat (first | refine blk_drewN ?_ _ | refine blk_drew ?_ | refine blk_alloc ?_ _)); refine blk_far ?_ NB609_614.out _; (with_reducible repeat (first | refine blk_drewN ?_ _ | refine blk_drew ?_ | refine blk_alloc ?_ _)); refine blk_far ?_ NB609_614.out _; (with_reducible repeat (first | refine blk_drewN ?_ _ | refine blk_drew ?_ | refine blk_alloc ?_ _)); exact BK609.out) hb); replace BK614 := aM (blk_below (g := gb614) (o := .cells #[.int .i64 t610, .slice Ao51 t611.length co51] 35 (0, 0)) (by (with_reducible repeat (first | refine blk_drewN ?_ _ | refine blk_drew ?_ | refine blk_alloc ?_ _)); refine blk_put (cs := #[.int .i64 t610, .slice none 0 0]) ?_ 1 _ rfl; (with_reducible repeat (first | refine blk_drewN ?_ _ | refine blk_drew ?_ | refine blk_alloc ?_ _)); refine blk_put (cs := #[.int .i64 0, .slice none 0 0]) ?_ 0 _ rfl; (with_reducible repeat (first | refine blk_drewN ?_ _ | refine blk_drew ?_ | refine blk_alloc ?_ _)); exact BK614.out) hb); replace HB := aM (below_step TB hb); clear hb))
      replace HO597 := aM (Kd.R_drew HO597.out)
      replace HO601 := aM (Kd.R_drew HO601.out)
      replace HO608 := aM (Kd.R_drew HO608.out)
      replace HO613 := aM (Kd.R_drew HO613.out)
      replace BK588 := aM (blk_drew BK588.out)
      replace BK589 := aM (blk_drew BK589.out)
      replace BK609 := aM (blk_drew BK609.out)
      replace BK614 := aM (blk_drew BK614.out)
      replace HB := aM (below_drew1 HB.out)
      refine start_ (n := 5) (S := fun w' => w'.cell? ⟨gb609, 0, none⟩ = some (.int .i64 t603) ∧ w'.cell? ⟨gb609, 1, none⟩ = some (.int .i64 t604) ∧ w'.cell? ⟨gb609, 2, none⟩ = some (.int .i64 t605) ∧ w'.cell? ⟨gb609, 3, none⟩ = some (.slice Ao43 t606.length co43) ∧ w'.cell? ⟨gb588, 0, none⟩ = some (.int .i64 a0_0) ∧ w'.cell? ⟨gb588, 1, none⟩ = some (.int .i64 a0_1) ∧ w'.cell? ⟨gb588, 2, none⟩ = some (.int .i64 a0_2) ∧ w'.cell? ⟨gb588, 3, none⟩ = some (.slice A0_3 l0_3.length c0_3)) (ds := []) (Array.replicate 5 false) (by kernel_rfl) rfl rfl ⟨(blk_cell BK609.out 0).trans rfl, (blk_cell BK609.out 1).trans rfl, (blk_cell BK609.out 2).trans rfl, (blk_cell BK609.out 3).trans rfl, (blk_cell BK588.out 0).trans rfl, (blk_cell BK588.out 1).trans rfl, (blk_cell BK588.out 2).trans rfl, (blk_cell BK588.out 3).trans rfl⟩ (fun hHeld => ?_)
      generalize w53.drew = w54 at HO597 HO601 HO608 HO613 BK588 BK589 BK609 BK614 HB hHeld ⊢
      refine pT 0 (some 35) ?_
      refine pT 1 (some 36) ?_
      refine pO 2 (some 37) (fun K hK => ?_)
      refine gG Try.func14 #[.agg #[.int .i64 a0_0, .int .i64 a0_1, .int .i64 a0_2, .slice A0_3 l0_3.length c0_3]] ?_
      with_reducible refine (laws_toManifest.calls k a0_0 a0_1 a0_2 _ _ l0_3 t616 t617 t618 t619 _ ?side1 ?side2 A23.out).mono ?_
      (case side1 => have X_ := (Kd.C_below HR0_3.out HB.out); exact TC)
      (case side2 => exact HC0_3.out)
      rintro e w55 ⟨v620, rfl, ho0, hb⟩
      refine ⟨_, rfl, ?_⟩
      have n0_ := aM (Kd.R_elder' (by have X_ := HO597.out; exact TR) (Kd.R_base ho0) hb)
      have n1_ := aM (Kd.R_below (by have X_ := HO601.out; exact TR) hb)
      have n2_ := aM (Kd.R_elder' (by have X_ := HO608.out; exact TR) (Kd.R_base ho0) hb)
      have n3_ := aM (Kd.R_below (by have X_ := HO613.out; exact TR) hb)
      have n4_ := aM (Kd.R_lower (Kd.R_new' (Kd.R_new' ho0 (Kd.R_lt (by have X_ := HO597.out; exact TR))) (Kd.R_lt (by have X_ := HO608.out; exact TR))) (below_size TB))
      have n5_ := aM (blk_below (by have X_ := BK588.out; exact TX) hb)
      have n6_ := aM (blk_below (by have X_ := BK589.out; exact TX) hb)
      have n7_ := aM (blk_below (by have X_ := BK609.out; exact TX) hb)
      have n8_ := aM (blk_below (by have X_ := BK614.out; exact TX) hb)
      have n9_ := aM (below_step TB hb)
      clear HO597
      clear HO601
      clear HO608
      clear HO613
      clear BK588
      clear BK589
      clear BK609
      clear BK614
      clear HB
      have HO597 := n0_
      have HO601 := n1_
      have HO608 := n2_
      have HO613 := n3_
      have HO621 := n4_
      have BK588 := n5_
      have BK589 := n6_
      have BK609 := n7_
      have BK614 := n8_
      have HB := n9_
      clear n0_ n1_ n2_ n3_ n4_ n5_ n6_ n7_ n8_ n9_
      (try clear hb)
      (try clear hb2)
      (try clear hk)
      (try clear hi)
      (try clear ho0)
      obtain ⟨Ao56, co56, eo56⟩ := Kd.R_slice HO621.out
      (first | subst eo56 | (injection eo56 with f1_ f2_ f3_; have f4_ := f1_.symm; have f5_ := f3_.symm; clear f1_ f2_ f3_; subst f4_; subst f5_))
      refine hK.out _ _ ⟨(blk_cell BK609.out 0).trans rfl, (blk_cell BK609.out 1).trans rfl, (blk_cell BK609.out 2).trans rfl, (blk_cell BK609.out 3).trans rfl, (blk_cell BK588.out 0).trans rfl, (blk_cell BK588.out 1).trans rfl, (blk_cell BK588.out 2).trans rfl, (blk_cell BK588.out 3).trans rfl⟩ (fun hHeld => ?_)
      clear hK K
      refine nR ?_
      refine pO 3 (some 38) (fun K hK => ?_)
      refine gG Try.func17 #[.agg #[.int .i64 t603, .int .i64 t604, .int .i64 t605, .slice Ao43 t606.length co43], .agg #[.int .i64 t616, .int .i64 t617, .int .i64 t618, .slice Ao56 t619.length co56]] ?_
      with_reducible refine (laws_eqManifest.calls k t603 t604 t605 _ _ t606 t616 t617 t618 _ _ t619 true _ ?side1 ?side2 ?side3 ?side4 A24.out).mono ?_
      (case side1 => have X_ := (Kd.R_reads' HO608.out).2.2; exact TC)
      (case side2 => exact (Kd.R_reads' HO608.out).2.1)
      (case side3 => have X_ := (Kd.R_reads' HO621.out).2.2; exact TC)
      (case side4 => exact (Kd.R_reads' HO621.out).2.1)
      rintro e w57 ⟨rfl, hb⟩
      refine ⟨_, rfl, ?_⟩
      have n0_ := aM (Kd.R_below (by have X_ := HO597.out; exact TR) hb)
      have n1_ := aM (Kd.R_below (by have X_ := HO601.out; exact TR) hb)
      have n2_ := aM (Kd.R_below (by have X_ := HO608.out; exact TR) hb)
      have n3_ := aM (Kd.R_below (by have X_ := HO613.out; exact TR) hb)
      have n4_ := aM (Kd.R_below (by have X_ := HO621.out; exact TR) hb)
      have n5_ := aM (blk_below (by have X_ := BK588.out; exact TX) hb)
      have n6_ := aM (blk_below (by have X_ := BK589.out; exact TX) hb)
      have n7_ := aM (blk_below (by have X_ := BK609.out; exact TX) hb)
      have n8_ := aM (blk_below (by have X_ := BK614.out; exact TX) hb)
      have n9_ := aM (below_step TB hb)
      clear HO597
      clear HO601
      clear HO608
      clear HO613
      clear HO621
      clear BK588
      clear BK589
      clear BK609
      clear BK614
      clear HB
      have HO597 := n0_
      have HO601 := n1_
      have HO608 := n2_
      have HO613 := n3_
      have HO621 := n4_
      have BK588 := n5_
      have BK589 := n6_
      have BK609 := n7_
      have BK614 := n8_
      have HB := n9_
      clear n0_ n1_ n2_ n3_ n4_ n5_ n6_ n7_ n8_ n9_
      (try clear hb)
      (try clear hb2)
      (try clear hk)
      (try clear hi)
      refine hK.out _ _ ⟨(blk_cell BK609.out 0).trans rfl, (blk_cell BK609.out 1).trans rfl, (blk_cell BK609.out 2).trans rfl, (blk_cell BK609.out 3).trans rfl, (blk_cell BK588.out 0).trans rfl, (blk_cell BK588.out 1).trans rfl, (blk_cell BK588.out 2).trans rfl, (blk_cell BK588.out 3).trans rfl⟩ (fun hHeld => ?_)
      clear hK K
      refine nR ?_
      refine pP 4 (some 39) ?_
      refine done_ (by kernel_rfl) ?_
      try go_wp2
      replace HO597 := aM (Kd.R_drew HO597.out)
      replace HO601 := aM (Kd.R_drew HO601.out)
      replace HO608 := aM (Kd.R_drew HO608.out)
      replace HO613 := aM (Kd.R_drew HO613.out)
      replace HO621 := aM (Kd.R_drew HO621.out)
      replace BK588 := aM (blk_drew BK588.out)
      replace BK589 := aM (blk_drew BK589.out)
      replace BK609 := aM (blk_drew BK609.out)
      replace BK614 := aM (blk_drew BK614.out)
      replace HB := aM (below_drew1 HB.out)
      refine start_ (n := 5) (S := fun w' => w'.cell? ⟨gb614, 0, none⟩ = some (.int .i64 t610) ∧ w'.cell? ⟨gb614, 1, none⟩ = some (.slice Ao51 t611.length co51) ∧ w'.cell? ⟨gb589, 0, none⟩ = some (.int .i64 a1_0) ∧ w'.cell? ⟨gb589, 1, none⟩ = some (.slice A1_1 l1_1.length c1_1)) (ds := []) (Array.replicate 5 false) (by kernel_rfl) rfl rfl ⟨(blk_cell BK614.out 0).trans rfl, (blk_cell BK614.out 1).trans rfl, (blk_cell BK589.out 0).trans rfl, (blk_cell BK589.out 1).trans rfl⟩ (fun hHeld => ?_)
      generalize w57.drew = w58 at HO597 HO601 HO608 HO613 HO621 BK588 BK589 BK609 BK614 HB hHeld ⊢
      refine pT 0 (some 40) ?_
      refine pT 1 (some 41) ?_
      refine pO 2 (some 42) (fun K hK => ?_)
      refine gG Try.func15 #[.agg #[.int .i64 a1_0, .slice A1_1 l1_1.length c1_1]] ?_
      with_reducible refine (laws_toBuild.calls k a1_0 _ _ l1_1 t623 t624 _ ?side1 ?side2 A26.out).mono ?_
      (case side1 => have X_ := (Kd.C_below HR1_1.out HB.out); exact TC)
      (case side2 => exact HC1_1.out)
      rintro e w59 ⟨v625, rfl, ho0, hb⟩
      refine ⟨_, rfl, ?_⟩
      have n0_ := aM (Kd.R_below (by have X_ := HO597.out; exact TR) hb)
      have n1_ := aM (Kd.R_elder' (by have X_ := HO601.out; exact TR) (Kd.R_base ho0) hb)
      have n2_ := aM (Kd.R_below (by have X_ := HO608.out; exact TR) hb)
      have n3_ := aM (Kd.R_elder' (by have X_ := HO613.out; exact TR) (Kd.R_base ho0) hb)
      have n4_ := aM (Kd.R_below (by have X_ := HO621.out; exact TR) hb)
      have n5_ := aM (Kd.R_lower (Kd.R_new' (Kd.R_new' ho0 (Kd.R_lt (by have X_ := HO601.out; exact TR))) (Kd.R_lt (by have X_ := HO613.out; exact TR))) (below_size TB))
      have n6_ := aM (blk_below (by have X_ := BK588.out; exact TX) hb)
      have n7_ := aM (blk_below (by have X_ := BK589.out; exact TX) hb)
      have n8_ := aM (blk_below (by have X_ := BK609.out; exact TX) hb)
      have n9_ := aM (blk_below (by have X_ := BK614.out; exact TX) hb)
      have n10_ := aM (below_step TB hb)
      clear HO597
      clear HO601
      clear HO608
      clear HO613
      clear HO621
      clear BK588
      clear BK589
      clear BK609
      clear BK614
      clear HB
      have HO597 := n0_
      have HO601 := n1_
      have HO608 := n2_
      have HO613 := n3_
      have HO621 := n4_
      have HO626 := n5_
      have BK588 := n6_
      have BK589 := n7_
      have BK609 := n8_
      have BK614 := n9_
      have HB := n10_
      clear n0_ n1_ n2_ n3_ n4_ n5_ n6_ n7_ n8_ n9_ n10_
      (try clear hb)
      (try clear hb2)
      (try clear hk)
      (try clear hi)
      (try clear ho0)
      obtain ⟨Ao60, co60, eo60⟩ := Kd.R_slice HO626.out
      (first | subst eo60 | (injection eo60 with f1_ f2_ f3_; have f4_ := f1_.symm; have f5_ := f3_.symm; clear f1_ f2_ f3_; subst f4_; subst f5_))
      refine hK.out _ _ ⟨(blk_cell BK614.out 0).trans rfl, (blk_cell BK614.out 1).trans rfl, (blk_cell BK589.out 0).trans rfl, (blk_cell BK589.out 1).trans rfl⟩ (fun hHeld => ?_)
      clear hK K
      refine nR ?_
      refine pO 3 (some 43) (fun K hK => ?_)
      refine gG Try.func18 #[.agg #[.int .i64 t610, .slice Ao51 t611.length co51], .agg #[.int .i64 t623, .slice Ao60 t624.length co60]] ?_
      with_reducible refine (laws_eqBuild.calls k t610 _ _ t611 t623 _ _ t624 true _ ?side1 ?side2 ?side3 ?side4 A27.out).mono ?_
      (case side1 => have X_ := (Kd.R_reads' HO613.out).2.2; exact TC)
      (case side2 => exact (Kd.R_reads' HO613.out).2.1)
      (case side3 => have X_ := (Kd.R_reads' HO626.out).2.2; exact TC)
      (case side4 => exact (Kd.R_reads' HO626.out).2.1)
      rintro e w61 ⟨rfl, hb⟩
      refine ⟨_, rfl, ?_⟩
      have n0_ := aM (Kd.R_below (by have X_ := HO597.out; exact TR) hb)
      have n1_ := aM (Kd.R_below (by have X_ := HO601.out; exact TR) hb)
      have n2_ := aM (Kd.R_below (by have X_ := HO608.out; exact TR) hb)
      have n3_ := aM (Kd.R_below (by have X_ := HO613.out; exact TR) hb)
      have n4_ := aM (Kd.R_below (by have X_ := HO621.out; exact TR) hb)
      have n5_ := aM (Kd.R_below (by have X_ := HO626.out; exact TR) hb)
      have n6_ := aM (blk_below (by have X_ := BK588.out; exact TX) hb)
      have n7_ := aM (blk_below (by have X_ := BK589.out; exact TX) hb)
      have n8_ := aM (blk_below (by have X_ := BK609.out; exact TX) hb)
      have n9_ := aM (blk_below (by have X_ := BK614.out; exact TX) hb)
      have n10_ := aM (below_step TB hb)
      clear HO597
      clear HO601
      clear HO608
      clear HO613
      clear HO621
      clear HO626
      clear BK588
      clear BK589
      clear BK609
      clear BK614
      clear HB
      have HO597 := n0_
      have HO601 := n1_
      have HO608 := n2_
      have HO613 := n3_
      have HO621 := n4_
      have HO626 := n5_
      have BK588 := n6_
      have BK589 := n7_
      have BK609 := n8_
      have BK614 := n9_
      have HB := n10_
      clear n0_ n1_ n2_ n3_ n4_ n5_ n6_ n7_ n8_ n9_ n10_
      (try clear hb)
      (try clear hb2)
      (try clear hk)
      (try clear hi)
      refine hK.out _ _ ⟨(blk_cell BK614.out 0).trans rfl, (blk_cell BK614.out 1).trans rfl, (blk_cell BK589.out 0).trans rfl, (blk_cell BK589.out 1).trans rfl⟩ (fun hHeld => ?_)
      clear hK K
      refine nR ?_
      refine pP 4 (some 44) ?_
      refine done_ (by kernel_rfl) ?_
      try go_wp2
      go_ret
      exact ⟨by first | rfl | (simp [errW_none, errW_some] <;> rfl) | (simp [*, errW_none, errW_some] <;> rfl), TB⟩

end Go.Proofs.Ytnoplippaiblcaa.Q
