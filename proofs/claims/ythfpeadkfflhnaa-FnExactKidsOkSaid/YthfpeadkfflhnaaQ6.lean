/- Functions of the program as plain Lean functions, and that a call of each comes to what its function tells. Written by a program of this seat. -/
import Derived.Test.YthfpeadkfflhnaaQ0
import Derived.Test.YthfpeadkfflhnaaQ1
import Derived.Test.YthfpeadkfflhnaaQ2
import Derived.Test.YthfpeadkfflhnaaQ3
import Derived.Test.YthfpeadkfflhnaaQ4
import Derived.Test.YthfpeadkfflhnaaQ5
namespace Go.Proofs.Ythfpeadkfflhnaa.Q
open Go.RowKit Go.Proofs.YthfpeadkfflhnaaW.PrintWords Go.Proofs.YthfpeadkfflhnaaW.PrintLast Go.Proofs.YthfpeadkfflhnaaW.PrintMore
attribute [local go_sem] max2_int min2_int max_two min_two max_three min_three max_four min_four   -- for this text's walks alone
set_option linter.unusedVariables false
set_option linter.unusedSimpArgs false

/-! ### laws_FnExactKidsOk: function 3 -/
def laws_FnExactKidsOk.f (k : Nat) (l0 : List (S34)) : Option (Bool) := (laws_szKidS.f l0 1048576).bind fun t147 => (if t147 < 0 then (some true) else ((laws_toKidS.f k l0).bind fun t148 => ((spec_KidsOk.f k t148).bind fun t151 => ((laws_toKidS.f k l0).bind fun t152 => ((impl_KidsOk.f k t152).bind fun t155 => (if (t155 != t151) = true then (none) else ((laws_toKidS.f k l0).bind fun t156 => ((laws_eqKidS.f k t152 t156).bind fun t159 => (if t159 = true then (some true) else (none))))))))))
theorem laws_FnExactKidsOk.mono : ∀ a0 k, LeO (laws_FnExactKidsOk.f k a0) (laws_FnExactKidsOk.f (k + 1) a0) := by
  intro a0 k
  have m0_ := @impl_KidsOk.mono
  have m1_ := @laws_eqKidS.mono
  have m2_ := @laws_toKidS.mono
  have m3_ := @spec_KidsOk.mono
  unfold laws_FnExactKidsOk.f
  exact LM
set_option maxHeartbeats 40000000 in
set_option maxRecDepth 100000 in
theorem laws_FnExactKidsOk.calls (k : Nat) (A0 : Option Addr) (c0 : Nat) (l0 : List (S34)) (r : Bool) (w : World) (hr0 : Kd.C k34 w A0 l0.length l0) (hc0 : l0.length ≤ c0) (h : laws_FnExactKidsOk.f k l0 = some r) :
    Calls Try.prog 3 #[.slice A0 l0.length c0] w fun e w' => e = .returned (.bool r) ∧ Below w.heap.size w w' := by
  have HR0 := aM hr0
  have HC0 := aM hc0
  clear hr0 hc0
  have HB := aM (Below.refl w.heap.size w)
  have H := h
  clear h
  unfold laws_FnExactKidsOk.f at H
  replace H := bE H
  obtain ⟨t147, A2, H⟩ := H
  by_cases c3 : t147 < 0
  · rw [if_pos c3] at H
    have c3b0 : decide (t147 < 0) = true := decide_eq_true c3
    clear c3
    obtain rfl := Option.some.inj H
    go_enter Try.func3, Try.ntmps3
    go_wp2_with (first | ((with_reducible refine gate_callee (f := 4) rfl ?_); refine gL (some 9) Try.func4 #[.slice A0 l0.length c0, .int .i64 1048576] ?_; (with_reducible refine (laws_szKidS.calls _ _ l0 1048576 t147 _ ?side1 ?side2 A2.out).mono ?_); (case side1 => have X_ := HR0.out; exact TC); (case side2 => exact HC0.out); rintro e w' ⟨rfl, ⟨nd, rfl⟩⟩; refine ⟨_, rfl, ?_⟩))
    go_ret
    exact ⟨by first | rfl | (simp [errW_none, errW_some] <;> rfl) | (simp [*, errW_none, errW_some] <;> rfl), TB⟩
  · rw [if_neg c3] at H
    have c3b0 : decide (t147 < 0) = false := decide_eq_false c3
    clear c3
    replace H := bE H
    obtain ⟨t148, A4, H⟩ := H
    replace H := bE H
    obtain ⟨t151, A5, H⟩ := H
    replace H := bE H
    obtain ⟨t152, A6, H⟩ := H
    replace H := bE H
    obtain ⟨t155, A7, H⟩ := H
    replace H := ifM H
    obtain ⟨c8, H⟩ := H
    have c8b0 : (t155 != t151) = false := by simpa using c8
    (try (have c8b1 : decide (t155 = t151) = true := by simpa using c8))
    (try (have c8b2 : (t155 == t151) = true := by simpa using c8))
    clear c8
    replace H := bE H
    obtain ⟨t156, A9, H⟩ := H
    replace H := bE H
    obtain ⟨t159, A10, H⟩ := H
    replace H := ifN H
    obtain ⟨c11, H⟩ := H
    subst c11
    obtain rfl := Option.some.inj H
    go_enter Try.func3, Try.ntmps3
    go_wp2_with (first | ((with_reducible refine gate_callee (f := 4) rfl ?_); refine gL (some 9) Try.func4 #[.slice A0 l0.length c0, .int .i64 1048576] ?_; (with_reducible refine (laws_szKidS.calls _ _ l0 1048576 t147 _ ?side1 ?side2 A2.out).mono ?_); (case side1 => have X_ := HR0.out; exact TC); (case side2 => exact HC0.out); rintro e w' ⟨rfl, ⟨nd, rfl⟩⟩; refine ⟨_, rfl, ?_⟩) | ((with_reducible refine gate_callee (f := 6) rfl ?_); refine gL (some 13) Try.func6 #[.slice A0 l0.length c0] ?_; (with_reducible refine (laws_toKidS.calls k _ _ l0 t148 _ ?side1 ?side2 A4.out).mono ?_); (case side1 => have X_ := HR0.out; exact TC); (case side2 => exact HC0.out); rintro e w12 ⟨v149, rfl, ho0, hb⟩; refine ⟨_, rfl, ?_⟩; have HO150 := aM (Kd.R_lower ho0 (below_size TB)); replace HB := aM (below_step TB hb); clear ho0 hb; obtain ⟨Ao13, co13, eo13⟩ := Kd.R_slice HO150.out; subst eo13) | ((with_reducible refine gate_callee (f := 5) rfl ?_); refine gL (some 14) Try.func5 #[.slice Ao13 t148.length co13] ?_; (with_reducible refine (spec_KidsOk.calls k _ _ t148 t151 _ ?side1 ?side2 A5.out).mono ?_); (case side1 => have X_ := (Kd.R_reads' HO150.out).2.2; exact TC); (case side2 => exact (Kd.R_reads' HO150.out).2.1); rintro e w14 ⟨rfl, hb⟩; refine ⟨_, rfl, ?_⟩; replace HO150 := aM (Kd.R_below (by have X_ := HO150.out; exact TR) hb); replace HB := aM (below_step TB hb); clear hb) | ((with_reducible refine gate_callee (f := 6) rfl ?_); refine gL (some 16) Try.func6 #[.slice A0 l0.length c0] ?_; (with_reducible refine (laws_toKidS.calls k _ _ l0 t152 _ ?side1 ?side2 A6.out).mono ?_); (case side1 => have X_ := (Kd.C_below HR0.out HB.out); exact TC); (case side2 => exact HC0.out); rintro e w15 ⟨v153, rfl, ho0, hb⟩; refine ⟨_, rfl, ?_⟩; have HO154 := aM (Kd.R_lower (Kd.R_new' ho0 (Kd.R_lt (by have X_ := HO150.out; exact TR))) (below_size TB)); replace HO150 := aM (Kd.R_elder' (by have X_ := HO150.out; exact TR) (Kd.R_base ho0) hb); replace HB := aM (below_step TB hb); clear ho0 hb; obtain ⟨Ao16, co16, eo16⟩ := Kd.R_slice HO154.out; subst eo16) | ((with_reducible refine gate_callee (f := 7) rfl ?_); refine gL (some 18) Try.func7 #[.slice Ao16 t152.length co16] ?_; (with_reducible refine (impl_KidsOk.calls k _ _ t152 t155 _ ?side1 ?side2 A7.out).mono ?_); (case side1 => have X_ := (Kd.R_reads' HO154.out).2.2; exact TC); (case side2 => exact (Kd.R_reads' HO154.out).2.1); rintro e w17 ⟨rfl, hb⟩; refine ⟨_, rfl, ?_⟩; replace HO150 := aM (Kd.R_below (by have X_ := HO150.out; exact TR) hb); replace HO154 := aM (Kd.R_below (by have X_ := HO154.out; exact TR) hb); replace HB := aM (below_step TB hb); clear hb) | ((with_reducible refine gate_callee (f := 6) rfl ?_); refine gL (some 24) Try.func6 #[.slice A0 l0.length c0] ?_; (with_reducible refine (laws_toKidS.calls k _ _ l0 t156 _ ?side1 ?side2 A9.out).mono ?_); (case side1 => have X_ := (Kd.C_below HR0.out HB.out); exact TC); (case side2 => exact HC0.out); rintro e w18 ⟨v157, rfl, ho0, hb⟩; refine ⟨_, rfl, ?_⟩; have HO158 := aM (Kd.R_lower (Kd.R_new' (Kd.R_new' ho0 (Kd.R_lt (by have X_ := HO150.out; exact TR))) (Kd.R_lt (by have X_ := HO154.out; exact TR))) (below_size TB)); replace HO150 := aM (Kd.R_elder' (by have X_ := HO150.out; exact TR) (Kd.R_base ho0) hb); replace HO154 := aM (Kd.R_elder' (by have X_ := HO154.out; exact TR) (Kd.R_base ho0) hb); replace HB := aM (below_step TB hb); clear ho0 hb; obtain ⟨Ao19, co19, eo19⟩ := Kd.R_slice HO158.out; subst eo19) | ((with_reducible refine gate_callee (f := 8) rfl ?_); refine gL (some 25) Try.func8 #[.slice Ao16 t152.length co16, .slice Ao19 t156.length co19] ?_; (with_reducible refine (laws_eqKidS.calls k _ _ t152 _ _ t156 true _ ?side1 ?side2 ?side3 ?side4 A10.out).mono ?_); (case side1 => have X_ := (Kd.R_reads' HO154.out).2.2; exact TC); (case side2 => exact (Kd.R_reads' HO154.out).2.1); (case side3 => have X_ := (Kd.R_reads' HO158.out).2.2; exact TC); (case side4 => exact (Kd.R_reads' HO158.out).2.1); rintro e w20 ⟨rfl, hb⟩; refine ⟨_, rfl, ?_⟩; replace HO150 := aM (Kd.R_below (by have X_ := HO150.out; exact TR) hb); replace HO154 := aM (Kd.R_below (by have X_ := HO154.out; exact TR) hb); replace HO158 := aM (Kd.R_below (by have X_ := HO158.out; exact TR) hb); replace HB := aM (below_step TB hb); clear hb))
    go_ret
    exact ⟨by first | rfl | (simp [errW_none, errW_some] <;> rfl) | (simp [*, errW_none, errW_some] <;> rfl), TB⟩

end Go.Proofs.Ythfpeadkfflhnaa.Q
