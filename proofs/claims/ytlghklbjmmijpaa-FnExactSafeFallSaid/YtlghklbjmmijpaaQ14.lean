/- Functions of the program as plain Lean functions, and that a call of each comes to what its function tells. Written by a program of this seat. -/
import Derived.Test.YtlghklbjmmijpaaQ0
import Derived.Test.YtlghklbjmmijpaaQ13
namespace Go.Proofs.Ytlghklbjmmijpaa.Q
open Go.RowKit Go.Proofs.YtlghklbjmmijpaaW.PrintWords Go.Proofs.YtlghklbjmmijpaaW.PrintLast Go.Proofs.YtlghklbjmmijpaaW.PrintMore
attribute [local go_sem] max2_int min2_int max_two min_two max_three min_three max_four min_four   -- for this text's walks alone
set_option linter.unusedVariables false
set_option linter.unusedSimpArgs false

/-! ### spec_Holds: function 88 -/
def spec_Holds.f (k : Nat) (l0_0 : List Int) (l0_1 : List Int) (a0_2 : Int) (a0_3 : Int) (a0_4 : Int) (l0_5 : List (S110)) (a1 : Int) (l2 : List Int) : Option (Bool) := (spec_Recover.f k l0_0 l0_1 a0_2 a0_3 a0_4 l0_5).bind fun bt239 => (if bt239.1 = a1 then ((spec_SameBytes.f bt239.2 l2).bind fun t243 => (some t243)) else (some false))
theorem spec_Holds.mono : ∀ a0 a1 a2 a3 a4 a5 a6 a7 k, LeO (spec_Holds.f k a0 a1 a2 a3 a4 a5 a6 a7) (spec_Holds.f (k + 1) a0 a1 a2 a3 a4 a5 a6 a7) := by
  intro a0 a1 a2 a3 a4 a5 a6 a7 k
  have m0_ := @spec_Recover.mono
  unfold spec_Holds.f
  exact LM
set_option maxHeartbeats 40000000 in
set_option maxRecDepth 100000 in
theorem spec_Holds.calls (k : Nat) (A0_0 : Option Addr) (c0_0 : Nat) (l0_0 : List Int) (A0_1 : Option Addr) (c0_1 : Nat) (l0_1 : List Int) (a0_2 : Int) (a0_3 : Int) (a0_4 : Int) (A0_5 : Option Addr) (c0_5 : Nat) (l0_5 : List (S110)) (a1 : Int) (A2 : Option Addr) (c2 : Nat) (l2 : List Int) (r : Bool) (w : World) (hr0_0 : Kd.C (Kd.int .u8) w A0_0 l0_0.length l0_0) (hc0_0 : l0_0.length ≤ c0_0) (hr0_1 : Kd.C (Kd.int .u8) w A0_1 l0_1.length l0_1) (hc0_1 : l0_1.length ≤ c0_1) (hr0_5 : Kd.C k110 w A0_5 l0_5.length l0_5) (hc0_5 : l0_5.length ≤ c0_5) (hr2 : Kd.C (Kd.int .u8) w A2 l2.length l2) (hc2 : l2.length ≤ c2) (h : spec_Holds.f k l0_0 l0_1 a0_2 a0_3 a0_4 l0_5 a1 l2 = some r) :
    Calls Try.prog 88 #[.agg #[.slice A0_0 l0_0.length c0_0, .slice A0_1 l0_1.length c0_1, .int .i64 a0_2, .int .i64 a0_3, .int .i64 a0_4, .slice A0_5 l0_5.length c0_5], .int .i64 a1, .slice A2 l2.length c2] w fun e w' => e = .returned (.bool r) ∧ Below w.heap.size w w' := by
  have hu33 := Try.underlying33
  have HR0_0 := aM hr0_0
  have HC0_0 := aM hc0_0
  clear hr0_0 hc0_0
  have HR0_1 := aM hr0_1
  have HC0_1 := aM hc0_1
  clear hr0_1 hc0_1
  have HR0_5 := aM hr0_5
  have HC0_5 := aM hc0_5
  clear hr0_5 hc0_5
  have HR2 := aM hr2
  have HC2 := aM hc2
  clear hr2 hc2
  have HB := aM (Below.refl w.heap.size w)
  have H := h
  clear h
  unfold spec_Holds.f at H
  replace H := bE H
  obtain ⟨⟨t239, t240⟩, A4, H⟩ := H
  dsimp only at H
  go_enter Try.func88, Try.ntmps88
  go_wp2_with (first | ((with_reducible refine gate_dst (N := 3) rfl ?_); refine gBx 3 #[.slice A0_0 l0_0.length c0_0, .slice A0_1 l0_1.length c0_1, .int .i64 a0_2, .int .i64 a0_3, .int .i64 a0_4, .slice A0_5 l0_5.length c0_5] 33 ?_; intro gb238 hg w5 hbox hb; have BK238 := aM (hbox); have GW238 := aM ((by rw [hg]; exact (below_size TB) : w.heap.size ≤ gb238)); have GE238 := aM ((by rw [hg]; exact (below_size TB) : w.heap.size ≤ gb238)); replace HB := aM (below_step TB hb); clear hb hbox hg; obtain ⟨hcz6_0, hcz6_1, hcz6_2, hcz6_3, hcz6_4, hcz6_5⟩ := cz6 BK238.out; obtain ⟨hfz6_0, hfz6_1, hfz6_2, hfz6_3, hfz6_4, hfz6_5⟩ := fz6 BK238.out) | ((with_reducible refine gate_callee (f := 132) rfl ?_); (with_reducible refine gate_dst (N := 11) rfl ?_); generalize hG_ : wpList _ _ _ _ _ _ = G_))
  subst hG_
  by_cases c7 : t239 = a1
  · rw [if_pos c7] at H
    have c7b0 : (t239 == a1) = true := beq_iff_eq.mpr c7
    have c7b1 : (t239 != a1) = false := bne_eq_false_iff_eq.mpr c7
    clear c7
    replace H := bE H
    obtain ⟨t243, A8, H⟩ := H
    obtain rfl := Option.some.inj H
    go_wp2_with (first | ((with_reducible refine gate_callee (f := 132) rfl ?_); refine gL (some 11) Try.func132 #[.agg #[.slice A0_0 l0_0.length c0_0, .slice A0_1 l0_1.length c0_1, .int .i64 a0_2, .int .i64 a0_3, .int .i64 a0_4, .slice A0_5 l0_5.length c0_5]] ?_; (with_reducible refine (spec_Recover.calls k _ _ l0_0 _ _ l0_1 a0_2 a0_3 a0_4 _ _ l0_5 t239 t240 _ ?side1 ?side2 ?side3 ?side4 ?side5 ?side6 A4.out).mono ?_); (case side1 => repeat (first | exact (Kd.C_below HR0_0.out TB) | (with_reducible refine Kd.C_alloc ?_ _) | (with_reducible refine Kd.C_drewN ?_ _) | (with_reducible refine Kd.C_drew ?_))); (case side2 => exact HC0_0.out); (case side3 => repeat (first | exact (Kd.C_below HR0_1.out TB) | (with_reducible refine Kd.C_alloc ?_ _) | (with_reducible refine Kd.C_drewN ?_ _) | (with_reducible refine Kd.C_drew ?_))); (case side4 => exact HC0_1.out); (case side5 => repeat (first | exact (Kd.C_below HR0_5.out TB) | (with_reducible refine Kd.C_alloc ?_ _) | (with_reducible refine Kd.C_drewN ?_ _) | (with_reducible refine Kd.C_drew ?_))); (case side6 => exact HC0_5.out); rintro e w9 ⟨v241, rfl, ho0, hb⟩; refine ⟨_, rfl, ?_⟩; have HO242 := aM (Kd.R_lower ho0 (below_size TB)); replace BK238 := aM (blk_below (by have X_ := BK238.out; exact TX) hb); replace HB := aM (below_step TB hb); clear ho0 hb; obtain ⟨Ao10, co10, eo10⟩ := Kd.R_slice HO242.out; subst eo10) | (go_at_call 133; (with_reducible refine (spec_SameBytes.calls _ _ t240 _ _ l2 t243 _ ?side1 ?side2 ?side3 ?side4 A8.out).mono ?_); (case side1 => have X_ := (Kd.R_reads' HO242.out).2.2; exact TC); (case side2 => exact (Kd.R_reads' HO242.out).2.1); (case side3 => have X_ := (Kd.C_below HR2.out HB.out); exact TC); (case side4 => exact HC2.out); rintro e w' ⟨rfl, ⟨nd, rfl⟩⟩))
    go_ret
    exact ⟨by first | rfl | (simp [errW_none, errW_some] <;> rfl) | (simp [*, errW_none, errW_some] <;> rfl), TB⟩
  · rw [if_neg c7] at H
    have c7b0 : (t239 == a1) = false := beq_eq_false_iff_ne.mpr c7
    have c7b1 : (t239 != a1) = true := bne_iff_ne.mpr c7
    obtain rfl := Option.some.inj H
    go_wp2_with (first | ((with_reducible refine gate_callee (f := 132) rfl ?_); refine gL (some 11) Try.func132 #[.agg #[.slice A0_0 l0_0.length c0_0, .slice A0_1 l0_1.length c0_1, .int .i64 a0_2, .int .i64 a0_3, .int .i64 a0_4, .slice A0_5 l0_5.length c0_5]] ?_; (with_reducible refine (spec_Recover.calls k _ _ l0_0 _ _ l0_1 a0_2 a0_3 a0_4 _ _ l0_5 t239 t240 _ ?side1 ?side2 ?side3 ?side4 ?side5 ?side6 A4.out).mono ?_); (case side1 => repeat (first | exact (Kd.C_below HR0_0.out TB) | (with_reducible refine Kd.C_alloc ?_ _) | (with_reducible refine Kd.C_drewN ?_ _) | (with_reducible refine Kd.C_drew ?_))); (case side2 => exact HC0_0.out); (case side3 => repeat (first | exact (Kd.C_below HR0_1.out TB) | (with_reducible refine Kd.C_alloc ?_ _) | (with_reducible refine Kd.C_drewN ?_ _) | (with_reducible refine Kd.C_drew ?_))); (case side4 => exact HC0_1.out); (case side5 => repeat (first | exact (Kd.C_below HR0_5.out TB) | (with_reducible refine Kd.C_alloc ?_ _) | (with_reducible refine Kd.C_drewN ?_ _) | (with_reducible refine Kd.C_drew ?_))); (case side6 => exact HC0_5.out); rintro e w11 ⟨v241, rfl, ho0, hb⟩; refine ⟨_, rfl, ?_⟩; have HO242 := aM (Kd.R_lower ho0 (below_size TB)); replace BK238 := aM (blk_below (by have X_ := BK238.out; exact TX) hb); replace HB := aM (below_step TB hb); clear ho0 hb))
    go_ret
    exact ⟨by first | rfl | (simp [errW_none, errW_some] <;> rfl) | (simp [*, errW_none, errW_some] <;> rfl), TB⟩

end Go.Proofs.Ytlghklbjmmijpaa.Q
