/- Functions of the program as plain Lean functions, and that a call of each comes to what its function tells. Written by a program of this seat. -/
import Derived.Test.YtaofakpljnkplaaQ0
import Derived.Test.YtaofakpljnkplaaQ32
namespace Go.Proofs.Ytaofakpljnkplaa.Q
open Go.RowKit Go.Proofs.YtaofakpljnkplaaW.PrintWords Go.Proofs.YtaofakpljnkplaaW.PrintLast Go.Proofs.YtaofakpljnkplaaW.PrintMore
attribute [local go_sem] min2_int min_two
set_option linter.unusedVariables false
set_option linter.unusedSimpArgs false

theorem Zq33_0 {p : Prop} (h : p := by repeat (first | exact (Kd.C_below HRq1.out TB) | (with_reducible refine Kd.C_alloc ?_ _) | (with_reducible refine Kd.C_drewN ?_ _) | (with_reducible refine Kd.C_drew ?_))) : p := h
theorem Zq33_1 {p : Prop} (h : p := by repeat (first | exact (Kd.C_below HRq2.out TB) | (with_reducible refine Kd.C_alloc ?_ _) | (with_reducible refine Kd.C_drewN ?_ _) | (with_reducible refine Kd.C_drew ?_))) : p := h
theorem Zq33_2 {p : Prop} (h : p := by repeat (first | exact (Kd.C_below HRq3.out TB) | (with_reducible refine Kd.C_alloc ?_ _) | (with_reducible refine Kd.C_drewN ?_ _) | (with_reducible refine Kd.C_drew ?_))) : p := h
theorem Zq33_3 {p : Prop} (h : p := by repeat (first | exact (Kd.C_below HRq4.out TB) | (with_reducible refine Kd.C_alloc ?_ _) | (with_reducible refine Kd.C_drewN ?_ _) | (with_reducible refine Kd.C_drew ?_))) : p := h
def impl_HoldsAny.f (k : Nat) (l0_0 : List Int) (l0_1 : List Int) (a0_2 : Int) (a0_3 : Int) (a0_4 : Int) (l0_5 : List (S104)) (l1 : List Int) (a2 : Int) (l3 : List Int) : Option (Bool) := (impl_Holds.f k l0_0 l0_1 a0_2 a0_3 a0_4 l0_5 0 l1).bind fun t870 => (if t870 = true then (some true) else ((impl_Holds.f k l0_0 l0_1 a0_2 a0_3 a0_4 l0_5 a2 l3).bind fun t871 => (some t871)))
theorem impl_HoldsAny.mono : ∀ a0 a1 a2 a3 a4 a5 a6 a7 a8 k, LeO (impl_HoldsAny.f k a0 a1 a2 a3 a4 a5 a6 a7 a8) (impl_HoldsAny.f (k + 1) a0 a1 a2 a3 a4 a5 a6 a7 a8) := by
  intro a0 a1 a2 a3 a4 a5 a6 a7 a8 k;have m0_ := @impl_Holds.mono;unfold impl_HoldsAny.f;exact LM
set_option maxHeartbeats 40000000 in
set_option maxRecDepth 100000 in
theorem impl_HoldsAny.calls {k : Nat} {A0_0 : Option Addr} {c0_0 : Nat} {l0_0 : List Int} {A0_1 : Option Addr} {c0_1 : Nat} {l0_1 : List Int} {a0_2 : Int} {a0_3 : Int} {a0_4 : Int} {A0_5 : Option Addr} {c0_5 : Nat} {l0_5 : List (S104)} {A1 : Option Addr} {c1 : Nat} {l1 : List Int} {a2 : Int} {A3 : Option Addr} {c3 : Nat} {l3 : List Int} {r : Bool} {w : World} (hr0_0 : Kd.C (Kd.int .u8) w A0_0 l0_0.length l0_0) (hc0_0 : l0_0.length ≤ c0_0) (hr0_1 : Kd.C (Kd.int .u8) w A0_1 l0_1.length l0_1) (hc0_1 : l0_1.length ≤ c0_1) (hr0_5 : Kd.C k104 w A0_5 l0_5.length l0_5) (hc0_5 : l0_5.length ≤ c0_5) (hr1 : Kd.C (Kd.int .u8) w A1 l1.length l1) (hc1 : l1.length ≤ c1) (hr3 : Kd.C (Kd.int .u8) w A3 l3.length l3) (hc3 : l3.length ≤ c3) (h : impl_HoldsAny.f k l0_0 l0_1 a0_2 a0_3 a0_4 l0_5 l1 a2 l3 = some r) :
    Calls Try.prog 24 #[.agg #[.slice A0_0 l0_0.length c0_0, .slice A0_1 l0_1.length c0_1, .int .i64 a0_2, .int .i64 a0_3, .int .i64 a0_4, .slice A0_5 l0_5.length c0_5], .slice A1 l1.length c1, .int .i64 a2, .slice A3 l3.length c3] w fun e w' => e = .returned (.bool r) ∧ Below w.heap.size w w' := by
  have huq1 := Try.underlying47
  have HRq1 := aM hr0_0
  have HCq1 := aM hc0_0
  clear hr0_0 hc0_0
  have HRq2 := aM hr0_1
  have HCq2 := aM hc0_1
  clear hr0_1 hc0_1
  have HRq3 := aM hr0_5
  have HCq3 := aM hc0_5
  clear hr0_5 hc0_5
  have HRq4 := aM hr1
  have HCq4 := aM hc1
  clear hr1 hc1
  have HRq5 := aM hr3
  have HCq5 := aM hc3
  clear hr3 hc3
  have HB := aM (Below.refl w.heap.size w)
  have H := h
  clear h
  unfold impl_HoldsAny.f at H
  replace H := bE H
  obtain ⟨t870, Aq1, H⟩ := H
  go_enter Try.func24, Try.ntmps24
  go_wp2_with (first | ((with_reducible refine gate_dst (N := 4) rfl ?_); refine gBx 4 #[.slice A0_0 l0_0.length c0_0, .slice A0_1 l0_1.length c0_1, .int .i64 a0_2, .int .i64 a0_3, .int .i64 a0_4, .slice A0_5 l0_5.length c0_5] 47 ?_; intro gbq1 hg wq1 hbox hb; have BKq1 := aM (hbox); have GWq1 := gW HB hg; have GEq1 := gW HB hg; replace HB := bS HB hb; clear hb hbox hg; obtain ⟨hczq1, hczq2, hczq3, hczq4, hczq5, hczq6⟩ := cz6 BKq1.out; obtain ⟨hfzq1, hfzq2, hfzq3, hfzq4, hfzq5, hfzq6⟩ := fz6 BKq1.out) | ((with_reducible refine gate_callee (f := 54) rfl ?_); (with_reducible refine gate_dst (N := 11) rfl ?_); generalize hG_ : wpList _ _ _ _ _ _ = G_))
  subst hG_
  by_cases cq1 : t870 = true
  ·subst cq1
   replace H := ifT H
   obtain rfl := o_I H
   go_wp2_with (first | ((with_reducible refine gate_callee (f := 54) rfl ?_); refine gL (some 11) Try.func54 #[.agg #[.slice A0_0 l0_0.length c0_0, .slice A0_1 l0_1.length c0_1, .int .i64 a0_2, .int .i64 a0_3, .int .i64 a0_4, .slice A0_5 l0_5.length c0_5], .int .i64 0, .slice A1 l1.length c1] ?_; (with_reducible refine (impl_Holds.calls ?side1 ?side2 ?side3 ?side4 ?side5 ?side6 ?side7 ?side8 Aq1.out).mono ?_); (case side1 => exact Zq33_0); (case side2 => exact HCq1.out); (case side3 => exact Zq33_1); (case side4 => exact HCq2.out); (case side5 => exact Zq33_2); (case side6 => exact HCq3.out); (case side7 => exact Zq33_3); (case side8 => exact HCq4.out); rintro e wq2 ⟨rfl, hb⟩; refine ⟨_, rfl, ?_⟩; replace BKq1 := mB BKq1 hb; replace HB := bS HB hb; clear hb))
   go_ret
   exact ⟨TE, TB⟩
  ·replace cq1 := b_F cq1
   subst cq1
   replace H := ifF H
   replace H := bE H
   obtain ⟨t871, Aq2, H⟩ := H
   obtain rfl := o_I H
   go_wp2_with (first | ((with_reducible refine gate_callee (f := 54) rfl ?_); refine gL (some 11) Try.func54 #[.agg #[.slice A0_0 l0_0.length c0_0, .slice A0_1 l0_1.length c0_1, .int .i64 a0_2, .int .i64 a0_3, .int .i64 a0_4, .slice A0_5 l0_5.length c0_5], .int .i64 0, .slice A1 l1.length c1] ?_; (with_reducible refine (impl_Holds.calls ?side1 ?side2 ?side3 ?side4 ?side5 ?side6 ?side7 ?side8 Aq1.out).mono ?_); (case side1 => exact Zq33_0); (case side2 => exact HCq1.out); (case side3 => exact Zq33_1); (case side4 => exact HCq2.out); (case side5 => exact Zq33_2); (case side6 => exact HCq3.out); (case side7 => exact Zq33_3); (case side8 => exact HCq4.out); rintro e wq2 ⟨rfl, hb⟩; refine ⟨_, rfl, ?_⟩; replace BKq1 := mB BKq1 hb; replace HB := bS HB hb; clear hb; obtain ⟨hczq7, hczq8, hczq9, hczq10, hczq11, hczq12⟩ := cz6 BKq1.out; obtain ⟨hfzq7, hfzq8, hfzq9, hfzq10, hfzq11, hfzq12⟩ := fz6 BKq1.out) | (go_at_call 54; (with_reducible refine (impl_Holds.calls ?side1 ?side2 ?side3 ?side4 ?side5 ?side6 ?side7 ?side8 Aq2.out).mono ?_); (case side1 => have X_ := (Kd.C_below HRq1.out HB.out); exact TC); (case side2 => exact HCq1.out); (case side3 => have X_ := (Kd.C_below HRq2.out HB.out); exact TC); (case side4 => exact HCq2.out); (case side5 => have X_ := (Kd.C_below HRq3.out HB.out); exact TC); (case side6 => exact HCq3.out); (case side7 => have X_ := (Kd.C_below HRq5.out HB.out); exact TC); (case side8 => exact HCq5.out); rintro e wq3 ⟨rfl, hb⟩; replace BKq1 := mB BKq1 hb; replace HB := bS HB hb; clear hb))
   go_ret
   exact ⟨TE, TB⟩

end Go.Proofs.Ytaofakpljnkplaa.Q
