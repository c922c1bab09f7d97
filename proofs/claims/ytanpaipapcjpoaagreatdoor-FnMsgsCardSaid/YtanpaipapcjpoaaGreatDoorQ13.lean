/- Functions of the program as plain Lean functions, and that a call of each comes to what its function tells. Written by a program of this seat. -/
import Derived.Test.YtanpaipapcjpoaaGreatDoorQ0
import Derived.Test.YtanpaipapcjpoaaGreatDoorQ10
set_option maxHeartbeats 40000000
set_option maxRecDepth 100000
namespace Go.Proofs.YtanpaipapcjpoaaGreatDoor.Q
open Go.RowKit Go.Proofs.YtanpaipapcjpoaaGreatDoorW.PrintWords Go.Proofs.YtanpaipapcjpoaaGreatDoorW.PrintLast Go.Proofs.YtanpaipapcjpoaaGreatDoorW.PrintMore
attribute [local go_sem] min2_int min_two
set_option linter.unusedVariables false
set_option linter.unusedSimpArgs false
theorem Zq13_0 {p : Prop} (h : p := by have X_ := (Kd.C_below HR0_5.out HB.out); exact TC) : p := h
def impl_Msg_isBare.f (a0_0 : Int) (a0_1 : Int) (a0_2 : Int) (a0_3 : Int) (a0_4 : Int) (l0_5 : List (S75)) (a0_6 : Int) (a0_7 : Int) (a0_8 : Int) (l0_9 : List Int) (a1 : Bool) (a2 : Bool) (a3 : Bool) : Option (Bool) := if a1 = true then (if a2 = true then (if a3 = true then (some true) else (if a0_8 = 0 then (some ((l0_9.length : Int) == 0)) else (some false))) else (if a0_6 = 0 then (if a0_7 = 0 then (if a3 = true then (some true) else (if a0_8 = 0 then (some ((l0_9.length : Int) == 0)) else (some false))) else (some false)) else (some false))) else ((impl_isZeroMan.f a0_2 a0_3 a0_4 l0_5).bind fun t462 => (if t462 = true then (if a2 = true then (if a3 = true then (some true) else (if a0_8 = 0 then (some ((l0_9.length : Int) == 0)) else (some false))) else (if a0_6 = 0 then (if a0_7 = 0 then (if a3 = true then (some true) else (if a0_8 = 0 then (some ((l0_9.length : Int) == 0)) else (some false))) else (some false)) else (some false))) else (some false)))
theorem impl_Msg_isBare.calls {a0_0 : Int} {a0_1 : Int} {a0_2 : Int} {a0_3 : Int} {a0_4 : Int} {A0_5 : Option Addr} {c0_5 : Nat} {l0_5 : List (S75)} {a0_6 : Int} {a0_7 : Int} {a0_8 : Int} {A0_9 : Option Addr} {c0_9 : Nat} {l0_9 : List Int} {a1 : Bool} {a2 : Bool} {a3 : Bool} {r : Bool} {w : World} (hr0_5 : Kd.C k75 w A0_5 l0_5.length l0_5) (hc0_5 : l0_5.length ≤ c0_5) (hr0_9 : Kd.C (Kd.int .u8) w A0_9 l0_9.length l0_9) (hc0_9 : l0_9.length ≤ c0_9) (h : impl_Msg_isBare.f a0_0 a0_1 a0_2 a0_3 a0_4 l0_5 a0_6 a0_7 a0_8 l0_9 a1 a2 a3 = some r) :
    Calls Tryz.prog 44 #[.agg #[.int .i64 a0_0, .int .i64 a0_1, .int .i64 a0_2, .int .i64 a0_3, .int .i64 a0_4, .slice A0_5 l0_5.length c0_5, .int .i64 a0_6, .int .i64 a0_7, .int .i64 a0_8, .slice A0_9 l0_9.length c0_9], .bool a1, .bool a2, .bool a3] w fun e w' => e = .returned (.bool r) ∧ Below w.heap.size w w' := by
  have hu28 := Tryz.underlying28
  have hu26 := Tryz.underlying26
  have HR0_5 := aM hr0_5
  have HC0_5 := aM hc0_5
  clear hr0_5 hc0_5
  have HR0_9 := aM hr0_9
  have HC0_9 := aM hc0_9
  clear hr0_9 hc0_9
  have HB := aM (Below.refl w.heap.size w)
  have H := h
  clear h
  unfold impl_Msg_isBare.f at H
  by_cases c5 : a1 = true
  · subst c5
    replace H := ifT H
    by_cases c6 : a2 = true
    · subst c6
      replace H := ifT H
      by_cases c7 : a3 = true
      · subst c7
        replace H := ifT H
        obtain rfl := oI H
        go_enter Tryz.func44, Tryz.ntmps44
        go_wp2_with (first | ((with_reducible refine gate_dst (N := 4) rfl ?_); (try (refine gate_guard (by rfl) ?_; dsimp only)); refine gBx 4 #[.int .i64 a0_0, .int .i64 a0_1, .int .i64 a0_2, .int .i64 a0_3, .int .i64 a0_4, .slice A0_5 l0_5.length c0_5, .int .i64 a0_6, .int .i64 a0_7, .int .i64 a0_8, .slice A0_9 l0_9.length c0_9] 28 ?_; intro gb461 hg w8 hbox hb; have BK461 := aM (hbox); have GW461 := gW HB hg; have GE461 := gW HB hg; replace HB := bS HB hb; clear hb hbox hg))
        go_ret
        exact ⟨TE, TB⟩
      · replace c7 := bF c7
        subst c7
        replace H := ifF H
        by_cases c9 : a0_8 = 0
        · rw [if_pos c9] at H
          have c9b0 : (a0_8 == 0) = true := beq_iff_eq.mpr c9
          have c9b1 : (a0_8 != 0) = false := bne_eq_false_iff_eq.mpr c9
          clear c9
          obtain rfl := oI H
          go_enter Tryz.func44, Tryz.ntmps44
          go_wp2_with (first | ((with_reducible refine gate_dst (N := 4) rfl ?_); (try (refine gate_guard (by rfl) ?_; dsimp only)); refine gBx 4 #[.int .i64 a0_0, .int .i64 a0_1, .int .i64 a0_2, .int .i64 a0_3, .int .i64 a0_4, .slice A0_5 l0_5.length c0_5, .int .i64 a0_6, .int .i64 a0_7, .int .i64 a0_8, .slice A0_9 l0_9.length c0_9] 28 ?_; intro gb461 hg w10 hbox hb; have BK461 := aM (hbox); have GW461 := gW HB hg; have GE461 := gW HB hg; replace HB := bS HB hb; clear hb hbox hg; obtain ⟨hcz11_0, hcz11_1, hcz11_2, hcz11_3, hcz11_4, hcz11_5, hcz11_6, hcz11_7, hcz11_8, hcz11_9⟩ := cz10 BK461.out; obtain ⟨hfz11_0, hfz11_1, hfz11_2, hfz11_3, hfz11_4, hfz11_5, hfz11_6, hfz11_7, hfz11_8, hfz11_9⟩ := fz10 BK461.out))
          go_ret
          exact ⟨TE, TB⟩
        · rw [if_neg c9] at H
          have c9b0 : (a0_8 == 0) = false := beq_eq_false_iff_ne.mpr c9
          have c9b1 : (a0_8 != 0) = true := bne_iff_ne.mpr c9
          obtain rfl := oI H
          go_enter Tryz.func44, Tryz.ntmps44
          go_wp2_with (first | ((with_reducible refine gate_dst (N := 4) rfl ?_); (try (refine gate_guard (by rfl) ?_; dsimp only)); refine gBx 4 #[.int .i64 a0_0, .int .i64 a0_1, .int .i64 a0_2, .int .i64 a0_3, .int .i64 a0_4, .slice A0_5 l0_5.length c0_5, .int .i64 a0_6, .int .i64 a0_7, .int .i64 a0_8, .slice A0_9 l0_9.length c0_9] 28 ?_; intro gb461 hg w12 hbox hb; have BK461 := aM (hbox); have GW461 := gW HB hg; have GE461 := gW HB hg; replace HB := bS HB hb; clear hb hbox hg; obtain ⟨hcz13_0, hcz13_1, hcz13_2, hcz13_3, hcz13_4, hcz13_5, hcz13_6, hcz13_7, hcz13_8, hcz13_9⟩ := cz10 BK461.out; obtain ⟨hfz13_0, hfz13_1, hfz13_2, hfz13_3, hfz13_4, hfz13_5, hfz13_6, hfz13_7, hfz13_8, hfz13_9⟩ := fz10 BK461.out))
          go_ret
          exact ⟨TE, TB⟩
    · replace c6 := bF c6
      subst c6
      replace H := ifF H
      by_cases c14 : a0_6 = 0
      · rw [if_pos c14] at H
        have c14b0 : (a0_6 == 0) = true := beq_iff_eq.mpr c14
        have c14b1 : (a0_6 != 0) = false := bne_eq_false_iff_eq.mpr c14
        clear c14
        by_cases c15 : a0_7 = 0
        · rw [if_pos c15] at H
          have c15b0 : (a0_7 == 0) = true := beq_iff_eq.mpr c15
          have c15b1 : (a0_7 != 0) = false := bne_eq_false_iff_eq.mpr c15
          clear c15
          by_cases c16 : a3 = true
          · subst c16
            replace H := ifT H
            obtain rfl := oI H
            go_enter Tryz.func44, Tryz.ntmps44
            go_wp2_with (first | ((with_reducible refine gate_dst (N := 4) rfl ?_); (try (refine gate_guard (by rfl) ?_; dsimp only)); refine gBx 4 #[.int .i64 a0_0, .int .i64 a0_1, .int .i64 a0_2, .int .i64 a0_3, .int .i64 a0_4, .slice A0_5 l0_5.length c0_5, .int .i64 a0_6, .int .i64 a0_7, .int .i64 a0_8, .slice A0_9 l0_9.length c0_9] 28 ?_; intro gb461 hg w17 hbox hb; have BK461 := aM (hbox); have GW461 := gW HB hg; have GE461 := gW HB hg; replace HB := bS HB hb; clear hb hbox hg; obtain ⟨hcz18_0, hcz18_1, hcz18_2, hcz18_3, hcz18_4, hcz18_5, hcz18_6, hcz18_7, hcz18_8, hcz18_9⟩ := cz10 BK461.out; obtain ⟨hfz18_0, hfz18_1, hfz18_2, hfz18_3, hfz18_4, hfz18_5, hfz18_6, hfz18_7, hfz18_8, hfz18_9⟩ := fz10 BK461.out))
            go_ret
            exact ⟨TE, TB⟩
          · replace c16 := bF c16
            subst c16
            replace H := ifF H
            by_cases c19 : a0_8 = 0
            · rw [if_pos c19] at H
              have c19b0 : (a0_8 == 0) = true := beq_iff_eq.mpr c19
              have c19b1 : (a0_8 != 0) = false := bne_eq_false_iff_eq.mpr c19
              clear c19
              obtain rfl := oI H
              go_enter Tryz.func44, Tryz.ntmps44
              go_wp2_with (first | ((with_reducible refine gate_dst (N := 4) rfl ?_); (try (refine gate_guard (by rfl) ?_; dsimp only)); refine gBx 4 #[.int .i64 a0_0, .int .i64 a0_1, .int .i64 a0_2, .int .i64 a0_3, .int .i64 a0_4, .slice A0_5 l0_5.length c0_5, .int .i64 a0_6, .int .i64 a0_7, .int .i64 a0_8, .slice A0_9 l0_9.length c0_9] 28 ?_; intro gb461 hg w20 hbox hb; have BK461 := aM (hbox); have GW461 := gW HB hg; have GE461 := gW HB hg; replace HB := bS HB hb; clear hb hbox hg; obtain ⟨hcz21_0, hcz21_1, hcz21_2, hcz21_3, hcz21_4, hcz21_5, hcz21_6, hcz21_7, hcz21_8, hcz21_9⟩ := cz10 BK461.out; obtain ⟨hfz21_0, hfz21_1, hfz21_2, hfz21_3, hfz21_4, hfz21_5, hfz21_6, hfz21_7, hfz21_8, hfz21_9⟩ := fz10 BK461.out))
              go_ret
              exact ⟨TE, TB⟩
            · rw [if_neg c19] at H
              have c19b0 : (a0_8 == 0) = false := beq_eq_false_iff_ne.mpr c19
              have c19b1 : (a0_8 != 0) = true := bne_iff_ne.mpr c19
              obtain rfl := oI H
              go_enter Tryz.func44, Tryz.ntmps44
              go_wp2_with (first | ((with_reducible refine gate_dst (N := 4) rfl ?_); (try (refine gate_guard (by rfl) ?_; dsimp only)); refine gBx 4 #[.int .i64 a0_0, .int .i64 a0_1, .int .i64 a0_2, .int .i64 a0_3, .int .i64 a0_4, .slice A0_5 l0_5.length c0_5, .int .i64 a0_6, .int .i64 a0_7, .int .i64 a0_8, .slice A0_9 l0_9.length c0_9] 28 ?_; intro gb461 hg w22 hbox hb; have BK461 := aM (hbox); have GW461 := gW HB hg; have GE461 := gW HB hg; replace HB := bS HB hb; clear hb hbox hg; obtain ⟨hcz23_0, hcz23_1, hcz23_2, hcz23_3, hcz23_4, hcz23_5, hcz23_6, hcz23_7, hcz23_8, hcz23_9⟩ := cz10 BK461.out; obtain ⟨hfz23_0, hfz23_1, hfz23_2, hfz23_3, hfz23_4, hfz23_5, hfz23_6, hfz23_7, hfz23_8, hfz23_9⟩ := fz10 BK461.out))
              go_ret
              exact ⟨TE, TB⟩
        · rw [if_neg c15] at H
          have c15b0 : (a0_7 == 0) = false := beq_eq_false_iff_ne.mpr c15
          have c15b1 : (a0_7 != 0) = true := bne_iff_ne.mpr c15
          obtain rfl := oI H
          go_enter Tryz.func44, Tryz.ntmps44
          go_wp2_with (first | ((with_reducible refine gate_dst (N := 4) rfl ?_); (try (refine gate_guard (by rfl) ?_; dsimp only)); refine gBx 4 #[.int .i64 a0_0, .int .i64 a0_1, .int .i64 a0_2, .int .i64 a0_3, .int .i64 a0_4, .slice A0_5 l0_5.length c0_5, .int .i64 a0_6, .int .i64 a0_7, .int .i64 a0_8, .slice A0_9 l0_9.length c0_9] 28 ?_; intro gb461 hg w24 hbox hb; have BK461 := aM (hbox); have GW461 := gW HB hg; have GE461 := gW HB hg; replace HB := bS HB hb; clear hb hbox hg; obtain ⟨hcz25_0, hcz25_1, hcz25_2, hcz25_3, hcz25_4, hcz25_5, hcz25_6, hcz25_7, hcz25_8, hcz25_9⟩ := cz10 BK461.out; obtain ⟨hfz25_0, hfz25_1, hfz25_2, hfz25_3, hfz25_4, hfz25_5, hfz25_6, hfz25_7, hfz25_8, hfz25_9⟩ := fz10 BK461.out))
          go_ret
          exact ⟨TE, TB⟩
      · rw [if_neg c14] at H
        have c14b0 : (a0_6 == 0) = false := beq_eq_false_iff_ne.mpr c14
        have c14b1 : (a0_6 != 0) = true := bne_iff_ne.mpr c14
        obtain rfl := oI H
        go_enter Tryz.func44, Tryz.ntmps44
        go_wp2_with (first | ((with_reducible refine gate_dst (N := 4) rfl ?_); (try (refine gate_guard (by rfl) ?_; dsimp only)); refine gBx 4 #[.int .i64 a0_0, .int .i64 a0_1, .int .i64 a0_2, .int .i64 a0_3, .int .i64 a0_4, .slice A0_5 l0_5.length c0_5, .int .i64 a0_6, .int .i64 a0_7, .int .i64 a0_8, .slice A0_9 l0_9.length c0_9] 28 ?_; intro gb461 hg w26 hbox hb; have BK461 := aM (hbox); have GW461 := gW HB hg; have GE461 := gW HB hg; replace HB := bS HB hb; clear hb hbox hg; obtain ⟨hcz27_0, hcz27_1, hcz27_2, hcz27_3, hcz27_4, hcz27_5, hcz27_6, hcz27_7, hcz27_8, hcz27_9⟩ := cz10 BK461.out; obtain ⟨hfz27_0, hfz27_1, hfz27_2, hfz27_3, hfz27_4, hfz27_5, hfz27_6, hfz27_7, hfz27_8, hfz27_9⟩ := fz10 BK461.out))
        go_ret
        exact ⟨TE, TB⟩
  · replace c5 := bF c5
    subst c5
    replace H := ifF H
    replace H := bE H
    obtain ⟨t462, A28, H⟩ := H
    by_cases c29 : t462 = true
    · subst c29
      replace H := ifT H
      by_cases c30 : a2 = true
      · subst c30
        replace H := ifT H
        by_cases c31 : a3 = true
        · subst c31
          replace H := ifT H
          obtain rfl := oI H
          go_enter Tryz.func44, Tryz.ntmps44
          go_wp2_with (first | ((with_reducible refine gate_dst (N := 4) rfl ?_); (try (refine gate_guard (by rfl) ?_; dsimp only)); refine gBx 4 #[.int .i64 a0_0, .int .i64 a0_1, .int .i64 a0_2, .int .i64 a0_3, .int .i64 a0_4, .slice A0_5 l0_5.length c0_5, .int .i64 a0_6, .int .i64 a0_7, .int .i64 a0_8, .slice A0_9 l0_9.length c0_9] 28 ?_; intro gb461 hg w32 hbox hb; have BK461 := aM (hbox); have GW461 := gW HB hg; have GE461 := gW HB hg; replace HB := bS HB hb; clear hb hbox hg; obtain ⟨hcz33_0, hcz33_1, hcz33_2, hcz33_3, hcz33_4, hcz33_5, hcz33_6, hcz33_7, hcz33_8, hcz33_9⟩ := cz10 BK461.out; obtain ⟨hfz33_0, hfz33_1, hfz33_2, hfz33_3, hfz33_4, hfz33_5, hfz33_6, hfz33_7, hfz33_8, hfz33_9⟩ := fz10 BK461.out) | (go_at_call 71; (with_reducible refine (impl_isZeroMan.calls ?side1 ?side2 A28.out).mono ?_); (case side1 => exact Zq13_0); (case side2 => exact HC0_5.out); rintro e w34 ⟨rfl, hb⟩; replace BK461 := mB BK461 hb; replace HB := bS HB hb; clear hb))
          go_ret
          exact ⟨TE, TB⟩
        · replace c31 := bF c31
          subst c31
          replace H := ifF H
          by_cases c35 : a0_8 = 0
          · rw [if_pos c35] at H
            have c35b0 : (a0_8 == 0) = true := beq_iff_eq.mpr c35
            have c35b1 : (a0_8 != 0) = false := bne_eq_false_iff_eq.mpr c35
            clear c35
            obtain rfl := oI H
            go_enter Tryz.func44, Tryz.ntmps44
            go_wp2_with (first | ((with_reducible refine gate_dst (N := 4) rfl ?_); (try (refine gate_guard (by rfl) ?_; dsimp only)); refine gBx 4 #[.int .i64 a0_0, .int .i64 a0_1, .int .i64 a0_2, .int .i64 a0_3, .int .i64 a0_4, .slice A0_5 l0_5.length c0_5, .int .i64 a0_6, .int .i64 a0_7, .int .i64 a0_8, .slice A0_9 l0_9.length c0_9] 28 ?_; intro gb461 hg w36 hbox hb; have BK461 := aM (hbox); have GW461 := gW HB hg; have GE461 := gW HB hg; replace HB := bS HB hb; clear hb hbox hg; obtain ⟨hcz37_0, hcz37_1, hcz37_2, hcz37_3, hcz37_4, hcz37_5, hcz37_6, hcz37_7, hcz37_8, hcz37_9⟩ := cz10 BK461.out; obtain ⟨hfz37_0, hfz37_1, hfz37_2, hfz37_3, hfz37_4, hfz37_5, hfz37_6, hfz37_7, hfz37_8, hfz37_9⟩ := fz10 BK461.out) | (go_at_call 71; (with_reducible refine (impl_isZeroMan.calls ?side1 ?side2 A28.out).mono ?_); (case side1 => exact Zq13_0); (case side2 => exact HC0_5.out); rintro e w38 ⟨rfl, hb⟩; replace BK461 := mB BK461 hb; replace HB := bS HB hb; clear hb; obtain ⟨hcz39_0, hcz39_1, hcz39_2, hcz39_3, hcz39_4, hcz39_5, hcz39_6, hcz39_7, hcz39_8, hcz39_9⟩ := cz10 BK461.out; obtain ⟨hfz39_0, hfz39_1, hfz39_2, hfz39_3, hfz39_4, hfz39_5, hfz39_6, hfz39_7, hfz39_8, hfz39_9⟩ := fz10 BK461.out))
            go_ret
            exact ⟨TE, TB⟩
          · rw [if_neg c35] at H
            have c35b0 : (a0_8 == 0) = false := beq_eq_false_iff_ne.mpr c35
            have c35b1 : (a0_8 != 0) = true := bne_iff_ne.mpr c35
            obtain rfl := oI H
            go_enter Tryz.func44, Tryz.ntmps44
            go_wp2_with (first | ((with_reducible refine gate_dst (N := 4) rfl ?_); (try (refine gate_guard (by rfl) ?_; dsimp only)); refine gBx 4 #[.int .i64 a0_0, .int .i64 a0_1, .int .i64 a0_2, .int .i64 a0_3, .int .i64 a0_4, .slice A0_5 l0_5.length c0_5, .int .i64 a0_6, .int .i64 a0_7, .int .i64 a0_8, .slice A0_9 l0_9.length c0_9] 28 ?_; intro gb461 hg w40 hbox hb; have BK461 := aM (hbox); have GW461 := gW HB hg; have GE461 := gW HB hg; replace HB := bS HB hb; clear hb hbox hg; obtain ⟨hcz41_0, hcz41_1, hcz41_2, hcz41_3, hcz41_4, hcz41_5, hcz41_6, hcz41_7, hcz41_8, hcz41_9⟩ := cz10 BK461.out; obtain ⟨hfz41_0, hfz41_1, hfz41_2, hfz41_3, hfz41_4, hfz41_5, hfz41_6, hfz41_7, hfz41_8, hfz41_9⟩ := fz10 BK461.out) | (go_at_call 71; (with_reducible refine (impl_isZeroMan.calls ?side1 ?side2 A28.out).mono ?_); (case side1 => exact Zq13_0); (case side2 => exact HC0_5.out); rintro e w42 ⟨rfl, hb⟩; replace BK461 := mB BK461 hb; replace HB := bS HB hb; clear hb; obtain ⟨hcz43_0, hcz43_1, hcz43_2, hcz43_3, hcz43_4, hcz43_5, hcz43_6, hcz43_7, hcz43_8, hcz43_9⟩ := cz10 BK461.out; obtain ⟨hfz43_0, hfz43_1, hfz43_2, hfz43_3, hfz43_4, hfz43_5, hfz43_6, hfz43_7, hfz43_8, hfz43_9⟩ := fz10 BK461.out))
            go_ret
            exact ⟨TE, TB⟩
      · replace c30 := bF c30
        subst c30
        replace H := ifF H
        by_cases c44 : a0_6 = 0
        · rw [if_pos c44] at H
          have c44b0 : (a0_6 == 0) = true := beq_iff_eq.mpr c44
          have c44b1 : (a0_6 != 0) = false := bne_eq_false_iff_eq.mpr c44
          clear c44
          by_cases c45 : a0_7 = 0
          · rw [if_pos c45] at H
            have c45b0 : (a0_7 == 0) = true := beq_iff_eq.mpr c45
            have c45b1 : (a0_7 != 0) = false := bne_eq_false_iff_eq.mpr c45
            clear c45
            by_cases c46 : a3 = true
            · subst c46
              replace H := ifT H
              obtain rfl := oI H
              go_enter Tryz.func44, Tryz.ntmps44
              go_wp2_with (first | ((with_reducible refine gate_dst (N := 4) rfl ?_); (try (refine gate_guard (by rfl) ?_; dsimp only)); refine gBx 4 #[.int .i64 a0_0, .int .i64 a0_1, .int .i64 a0_2, .int .i64 a0_3, .int .i64 a0_4, .slice A0_5 l0_5.length c0_5, .int .i64 a0_6, .int .i64 a0_7, .int .i64 a0_8, .slice A0_9 l0_9.length c0_9] 28 ?_; intro gb461 hg w47 hbox hb; have BK461 := aM (hbox); have GW461 := gW HB hg; have GE461 := gW HB hg; replace HB := bS HB hb; clear hb hbox hg; obtain ⟨hcz48_0, hcz48_1, hcz48_2, hcz48_3, hcz48_4, hcz48_5, hcz48_6, hcz48_7, hcz48_8, hcz48_9⟩ := cz10 BK461.out; obtain ⟨hfz48_0, hfz48_1, hfz48_2, hfz48_3, hfz48_4, hfz48_5, hfz48_6, hfz48_7, hfz48_8, hfz48_9⟩ := fz10 BK461.out) | (go_at_call 71; (with_reducible refine (impl_isZeroMan.calls ?side1 ?side2 A28.out).mono ?_); (case side1 => exact Zq13_0); (case side2 => exact HC0_5.out); rintro e w49 ⟨rfl, hb⟩; replace BK461 := mB BK461 hb; replace HB := bS HB hb; clear hb; obtain ⟨hcz50_0, hcz50_1, hcz50_2, hcz50_3, hcz50_4, hcz50_5, hcz50_6, hcz50_7, hcz50_8, hcz50_9⟩ := cz10 BK461.out; obtain ⟨hfz50_0, hfz50_1, hfz50_2, hfz50_3, hfz50_4, hfz50_5, hfz50_6, hfz50_7, hfz50_8, hfz50_9⟩ := fz10 BK461.out))
              go_ret
              exact ⟨TE, TB⟩
            · replace c46 := bF c46
              subst c46
              replace H := ifF H
              by_cases c51 : a0_8 = 0
              · rw [if_pos c51] at H
                have c51b0 : (a0_8 == 0) = true := beq_iff_eq.mpr c51
                have c51b1 : (a0_8 != 0) = false := bne_eq_false_iff_eq.mpr c51
                clear c51
                obtain rfl := oI H
                go_enter Tryz.func44, Tryz.ntmps44
                go_wp2_with (first | ((with_reducible refine gate_dst (N := 4) rfl ?_); (try (refine gate_guard (by rfl) ?_; dsimp only)); refine gBx 4 #[.int .i64 a0_0, .int .i64 a0_1, .int .i64 a0_2, .int .i64 a0_3, .int .i64 a0_4, .slice A0_5 l0_5.length c0_5, .int .i64 a0_6, .int .i64 a0_7, .int .i64 a0_8, .slice A0_9 l0_9.length c0_9] 28 ?_; intro gb461 hg w52 hbox hb; have BK461 := aM (hbox); have GW461 := gW HB hg; have GE461 := gW HB hg; replace HB := bS HB hb; clear hb hbox hg; obtain ⟨hcz53_0, hcz53_1, hcz53_2, hcz53_3, hcz53_4, hcz53_5, hcz53_6, hcz53_7, hcz53_8, hcz53_9⟩ := cz10 BK461.out; obtain ⟨hfz53_0, hfz53_1, hfz53_2, hfz53_3, hfz53_4, hfz53_5, hfz53_6, hfz53_7, hfz53_8, hfz53_9⟩ := fz10 BK461.out) | (go_at_call 71; (with_reducible refine (impl_isZeroMan.calls ?side1 ?side2 A28.out).mono ?_); (case side1 => exact Zq13_0); (case side2 => exact HC0_5.out); rintro e w54 ⟨rfl, hb⟩; replace BK461 := mB BK461 hb; replace HB := bS HB hb; clear hb; obtain ⟨hcz55_0, hcz55_1, hcz55_2, hcz55_3, hcz55_4, hcz55_5, hcz55_6, hcz55_7, hcz55_8, hcz55_9⟩ := cz10 BK461.out; obtain ⟨hfz55_0, hfz55_1, hfz55_2, hfz55_3, hfz55_4, hfz55_5, hfz55_6, hfz55_7, hfz55_8, hfz55_9⟩ := fz10 BK461.out))
                go_ret
                exact ⟨TE, TB⟩
              · rw [if_neg c51] at H
                have c51b0 : (a0_8 == 0) = false := beq_eq_false_iff_ne.mpr c51
                have c51b1 : (a0_8 != 0) = true := bne_iff_ne.mpr c51
                obtain rfl := oI H
                go_enter Tryz.func44, Tryz.ntmps44
                go_wp2_with (first | ((with_reducible refine gate_dst (N := 4) rfl ?_); (try (refine gate_guard (by rfl) ?_; dsimp only)); refine gBx 4 #[.int .i64 a0_0, .int .i64 a0_1, .int .i64 a0_2, .int .i64 a0_3, .int .i64 a0_4, .slice A0_5 l0_5.length c0_5, .int .i64 a0_6, .int .i64 a0_7, .int .i64 a0_8, .slice A0_9 l0_9.length c0_9] 28 ?_; intro gb461 hg w56 hbox hb; have BK461 := aM (hbox); have GW461 := gW HB hg; have GE461 := gW HB hg; replace HB := bS HB hb; clear hb hbox hg; obtain ⟨hcz57_0, hcz57_1, hcz57_2, hcz57_3, hcz57_4, hcz57_5, hcz57_6, hcz57_7, hcz57_8, hcz57_9⟩ := cz10 BK461.out; obtain ⟨hfz57_0, hfz57_1, hfz57_2, hfz57_3, hfz57_4, hfz57_5, hfz57_6, hfz57_7, hfz57_8, hfz57_9⟩ := fz10 BK461.out) | (go_at_call 71; (with_reducible refine (impl_isZeroMan.calls ?side1 ?side2 A28.out).mono ?_); (case side1 => exact Zq13_0); (case side2 => exact HC0_5.out); rintro e w58 ⟨rfl, hb⟩; replace BK461 := mB BK461 hb; replace HB := bS HB hb; clear hb; obtain ⟨hcz59_0, hcz59_1, hcz59_2, hcz59_3, hcz59_4, hcz59_5, hcz59_6, hcz59_7, hcz59_8, hcz59_9⟩ := cz10 BK461.out; obtain ⟨hfz59_0, hfz59_1, hfz59_2, hfz59_3, hfz59_4, hfz59_5, hfz59_6, hfz59_7, hfz59_8, hfz59_9⟩ := fz10 BK461.out))
                go_ret
                exact ⟨TE, TB⟩
          · rw [if_neg c45] at H
            have c45b0 : (a0_7 == 0) = false := beq_eq_false_iff_ne.mpr c45
            have c45b1 : (a0_7 != 0) = true := bne_iff_ne.mpr c45
            obtain rfl := oI H
            go_enter Tryz.func44, Tryz.ntmps44
            go_wp2_with (first | ((with_reducible refine gate_dst (N := 4) rfl ?_); (try (refine gate_guard (by rfl) ?_; dsimp only)); refine gBx 4 #[.int .i64 a0_0, .int .i64 a0_1, .int .i64 a0_2, .int .i64 a0_3, .int .i64 a0_4, .slice A0_5 l0_5.length c0_5, .int .i64 a0_6, .int .i64 a0_7, .int .i64 a0_8, .slice A0_9 l0_9.length c0_9] 28 ?_; intro gb461 hg w60 hbox hb; have BK461 := aM (hbox); have GW461 := gW HB hg; have GE461 := gW HB hg; replace HB := bS HB hb; clear hb hbox hg; obtain ⟨hcz61_0, hcz61_1, hcz61_2, hcz61_3, hcz61_4, hcz61_5, hcz61_6, hcz61_7, hcz61_8, hcz61_9⟩ := cz10 BK461.out; obtain ⟨hfz61_0, hfz61_1, hfz61_2, hfz61_3, hfz61_4, hfz61_5, hfz61_6, hfz61_7, hfz61_8, hfz61_9⟩ := fz10 BK461.out) | (go_at_call 71; (with_reducible refine (impl_isZeroMan.calls ?side1 ?side2 A28.out).mono ?_); (case side1 => exact Zq13_0); (case side2 => exact HC0_5.out); rintro e w62 ⟨rfl, hb⟩; replace BK461 := mB BK461 hb; replace HB := bS HB hb; clear hb; obtain ⟨hcz63_0, hcz63_1, hcz63_2, hcz63_3, hcz63_4, hcz63_5, hcz63_6, hcz63_7, hcz63_8, hcz63_9⟩ := cz10 BK461.out; obtain ⟨hfz63_0, hfz63_1, hfz63_2, hfz63_3, hfz63_4, hfz63_5, hfz63_6, hfz63_7, hfz63_8, hfz63_9⟩ := fz10 BK461.out))
            go_ret
            exact ⟨TE, TB⟩
        · rw [if_neg c44] at H
          have c44b0 : (a0_6 == 0) = false := beq_eq_false_iff_ne.mpr c44
          have c44b1 : (a0_6 != 0) = true := bne_iff_ne.mpr c44
          obtain rfl := oI H
          go_enter Tryz.func44, Tryz.ntmps44
          go_wp2_with (first | ((with_reducible refine gate_dst (N := 4) rfl ?_); (try (refine gate_guard (by rfl) ?_; dsimp only)); refine gBx 4 #[.int .i64 a0_0, .int .i64 a0_1, .int .i64 a0_2, .int .i64 a0_3, .int .i64 a0_4, .slice A0_5 l0_5.length c0_5, .int .i64 a0_6, .int .i64 a0_7, .int .i64 a0_8, .slice A0_9 l0_9.length c0_9] 28 ?_; intro gb461 hg w64 hbox hb; have BK461 := aM (hbox); have GW461 := gW HB hg; have GE461 := gW HB hg; replace HB := bS HB hb; clear hb hbox hg; obtain ⟨hcz65_0, hcz65_1, hcz65_2, hcz65_3, hcz65_4, hcz65_5, hcz65_6, hcz65_7, hcz65_8, hcz65_9⟩ := cz10 BK461.out; obtain ⟨hfz65_0, hfz65_1, hfz65_2, hfz65_3, hfz65_4, hfz65_5, hfz65_6, hfz65_7, hfz65_8, hfz65_9⟩ := fz10 BK461.out) | (go_at_call 71; (with_reducible refine (impl_isZeroMan.calls ?side1 ?side2 A28.out).mono ?_); (case side1 => exact Zq13_0); (case side2 => exact HC0_5.out); rintro e w66 ⟨rfl, hb⟩; replace BK461 := mB BK461 hb; replace HB := bS HB hb; clear hb; obtain ⟨hcz67_0, hcz67_1, hcz67_2, hcz67_3, hcz67_4, hcz67_5, hcz67_6, hcz67_7, hcz67_8, hcz67_9⟩ := cz10 BK461.out; obtain ⟨hfz67_0, hfz67_1, hfz67_2, hfz67_3, hfz67_4, hfz67_5, hfz67_6, hfz67_7, hfz67_8, hfz67_9⟩ := fz10 BK461.out))
          go_ret
          exact ⟨TE, TB⟩
    · replace c29 := bF c29
      subst c29
      replace H := ifF H
      obtain rfl := oI H
      go_enter Tryz.func44, Tryz.ntmps44
      go_wp2_with (first | ((with_reducible refine gate_dst (N := 4) rfl ?_); (try (refine gate_guard (by rfl) ?_; dsimp only)); refine gBx 4 #[.int .i64 a0_0, .int .i64 a0_1, .int .i64 a0_2, .int .i64 a0_3, .int .i64 a0_4, .slice A0_5 l0_5.length c0_5, .int .i64 a0_6, .int .i64 a0_7, .int .i64 a0_8, .slice A0_9 l0_9.length c0_9] 28 ?_; intro gb461 hg w68 hbox hb; have BK461 := aM (hbox); have GW461 := gW HB hg; have GE461 := gW HB hg; replace HB := bS HB hb; clear hb hbox hg; obtain ⟨hcz69_0, hcz69_1, hcz69_2, hcz69_3, hcz69_4, hcz69_5, hcz69_6, hcz69_7, hcz69_8, hcz69_9⟩ := cz10 BK461.out; obtain ⟨hfz69_0, hfz69_1, hfz69_2, hfz69_3, hfz69_4, hfz69_5, hfz69_6, hfz69_7, hfz69_8, hfz69_9⟩ := fz10 BK461.out) | (go_at_call 71; (with_reducible refine (impl_isZeroMan.calls ?side1 ?side2 A28.out).mono ?_); (case side1 => exact Zq13_0); (case side2 => exact HC0_5.out); rintro e w70 ⟨rfl, hb⟩; replace BK461 := mB BK461 hb; replace HB := bS HB hb; clear hb))
      go_ret
      exact ⟨TE, TB⟩
def impl_isGen.f (a0 : Int) : Option (Bool) := (impl_within.f a0 0 1000000).bind fun t463 => (some t463)
theorem impl_isGen.calls {a0 : Int} {r : Bool} {w : World} (h : impl_isGen.f a0 = some r) :
    Calls Tryz.prog 45 #[.int .i64 a0] w fun e w' => e = .returned (.bool r) ∧ Drawn0 w w' := by
  have H := h
  clear h
  unfold impl_isGen.f at H
  replace H := bE H
  obtain ⟨t463, A2, H⟩ := H
  obtain rfl := oI H
  go_enter Tryz.func45, Tryz.ntmps45
  go_wp2_with (first | ((with_reducible refine gate_callee (f := 47) rfl ?_); refine gL (some 4) Tryz.func47 #[.int .i64 a0, .int .i64 0, .int .i64 1000000] ?_; (with_reducible refine (impl_within.calls A2.out).mono ?_); rintro e w' ⟨rfl, ⟨nd, rfl⟩⟩; refine ⟨_, rfl, ?_⟩))
  go_ret
  exact ⟨by first | rfl | (simp; done) | (simp [*]; done), TD⟩
def impl_SetOk.f (a0 : Int) : Option (Bool) := (impl_within.f a0 0 1099511627775).bind fun t464 => (some t464)
theorem impl_SetOk.calls {a0 : Int} {r : Bool} {w : World} (h : impl_SetOk.f a0 = some r) :
    Calls Tryz.prog 46 #[.int .i64 a0] w fun e w' => e = .returned (.bool r) ∧ Drawn0 w w' := by
  have H := h
  clear h
  unfold impl_SetOk.f at H
  replace H := bE H
  obtain ⟨t464, A2, H⟩ := H
  obtain rfl := oI H
  go_enter Tryz.func46, Tryz.ntmps46
  go_wp2_with (first | ((with_reducible refine gate_callee (f := 47) rfl ?_); refine gL (some 4) Tryz.func47 #[.int .i64 a0, .int .i64 0, .int .i64 1099511627775] ?_; (with_reducible refine (impl_within.calls A2.out).mono ?_); rintro e w' ⟨rfl, ⟨nd, rfl⟩⟩; refine ⟨_, rfl, ?_⟩))
  go_ret
  exact ⟨by first | rfl | (simp; done) | (simp [*]; done), TD⟩
def impl_isPlace.f (a0 : Int) : Option (Bool) := (impl_within.f a0 0 39).bind fun t465 => (some t465)
theorem impl_isPlace.calls {a0 : Int} {r : Bool} {w : World} (h : impl_isPlace.f a0 = some r) :
  Calls Tryz.prog 48 #[.int .i64 a0] w fun e w' => e = .returned (.bool r) ∧ Drawn0 w w' := by
 have H := h;clear h;unfold impl_isPlace.f at H;replace H := bE H;obtain ⟨t465, A2, H⟩ := H;obtain rfl := oI H;go_enter Tryz.func48, Tryz.ntmps48;go_wp2_with (first | ((with_reducible refine gate_callee (f := 47) rfl ?_); refine gL (some 4) Tryz.func47 #[.int .i64 a0, .int .i64 0, .int .i64 39] ?_; (with_reducible refine (impl_within.calls A2.out).mono ?_); rintro e w' ⟨rfl, ⟨nd, rfl⟩⟩; refine ⟨_, rfl, ?_⟩))
 go_ret
 exact ⟨by first | rfl | (simp; done) | (simp [*]; done), TD⟩
end Go.Proofs.YtanpaipapcjpoaaGreatDoor.Q
