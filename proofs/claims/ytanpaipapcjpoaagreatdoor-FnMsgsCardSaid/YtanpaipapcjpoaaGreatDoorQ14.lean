/- Functions of the program as plain Lean functions, and that a call of each comes to what its function tells. Written by a program of this seat. -/
import Derived.Test.YtanpaipapcjpoaaGreatDoorQ0
import Derived.Test.YtanpaipapcjpoaaGreatDoorQ10
import Derived.Test.YtanpaipapcjpoaaGreatDoorQ12
import Derived.Test.YtanpaipapcjpoaaGreatDoorQ13
set_option maxHeartbeats 40000000
set_option maxRecDepth 100000
namespace Go.Proofs.YtanpaipapcjpoaaGreatDoor.Q
open Go.RowKit Go.Proofs.YtanpaipapcjpoaaGreatDoorW.PrintWords Go.Proofs.YtanpaipapcjpoaaGreatDoorW.PrintLast Go.Proofs.YtanpaipapcjpoaaGreatDoorW.PrintMore
attribute [local go_sem] min2_int min_two
set_option linter.unusedVariables false
set_option linter.unusedSimpArgs false
theorem Zq14_0 {p : Prop} (h : p := by repeat (first | exact (Kd.C_below HR0_5.out TB) | (with_reducible refine Kd.C_alloc ?_ _) | (with_reducible refine Kd.C_drewN ?_ _) | (with_reducible refine Kd.C_drew ?_))) : p := h
theorem Zq14_1 {p : Prop} (h : p := by repeat (first | (with_reducible first | exact HK.out | apply Kept.alloc | apply Kept.drewN | apply Kept.drew) | exact HK.out)) : p := h
theorem Zq14_2 {p : Prop} (h : p := by repeat (first | exact (Kd.C_below HR0_9.out TB) | (with_reducible refine Kd.C_alloc ?_ _) | (with_reducible refine Kd.C_drewN ?_ _) | (with_reducible refine Kd.C_drew ?_))) : p := h
theorem Zq14_3 {p : Prop} (h : p := by exact (fun k_ hk => (.inr (Nat.le_trans (by first | exact HK.out.1 | exact (show Kept w _ (fun k_ => P0_ k_) from by exact Zq14_1).1) hk)))) : p := h
def impl_MsgOk.f (k : Nat) (a0_0 : Int) (a0_1 : Int) (a0_2 : Int) (a0_3 : Int) (a0_4 : Int) (l0_5 : List (S75)) (a0_6 : Int) (a0_7 : Int) (a0_8 : Int) (l0_9 : List Int) : Option (Bool) := if a0_0 = 1 then ((impl_ManOk.f k a0_2 a0_3 a0_4 l0_5).bind fun t467 => (if t467 = true then (if a0_2 = 0 then (some false) else (if a0_1 = 0 then ((impl_Msg_isBare.f a0_0 a0_1 a0_2 a0_3 a0_4 l0_5 a0_6 a0_7 a0_8 l0_9 true false false).bind fun t468 => (some t468)) else (some false))) else (some false))) else (if a0_0 = 2 then ((impl_isGen.f a0_1).bind fun t469 => (if t469 = true then ((impl_SetOk.f a0_6).bind fun t470 => (if t470 = true then ((impl_SetOk.f a0_7).bind fun t471 => (if t471 = true then ((impl_Msg_isBare.f a0_0 a0_1 a0_2 a0_3 a0_4 l0_5 a0_6 a0_7 a0_8 l0_9 false true false).bind fun t472 => (some t472)) else (some false))) else (some false))) else (some false))) else (if a0_0 = 3 then ((impl_within.f a0_1 1 1000000).bind fun t473 => (if t473 = true then ((impl_isPlace.f a0_8).bind fun t474 => (if t474 = true then ((impl_within.f (l0_9.length : Int) 1 6).bind fun t475 => (if t475 = true then ((impl_Msg_isBare.f a0_0 a0_1 a0_2 a0_3 a0_4 l0_5 a0_6 a0_7 a0_8 l0_9 false false true).bind fun t476 => (some t476)) else (some false))) else (some false))) else (some false))) else (if a0_0 = 4 then ((impl_isGen.f a0_1).bind fun t477 => (if t477 = true then ((impl_Msg_isBare.f a0_0 a0_1 a0_2 a0_3 a0_4 l0_5 a0_6 a0_7 a0_8 l0_9 false false false).bind fun t478 => (some t478)) else (some false))) else (some false))))
theorem impl_MsgOk.mono : ∀ a0 a1 a2 a3 a4 a5 a6 a7 a8 a9 k, LeO (impl_MsgOk.f k a0 a1 a2 a3 a4 a5 a6 a7 a8 a9) (impl_MsgOk.f (k + 1) a0 a1 a2 a3 a4 a5 a6 a7 a8 a9) := by
  intro a0 a1 a2 a3 a4 a5 a6 a7 a8 a9 k;have m0_ := @impl_ManOk.mono;unfold impl_MsgOk.f;exact LM
theorem impl_MsgOk.calls {k : Nat} {a0_0 : Int} {a0_1 : Int} {a0_2 : Int} {a0_3 : Int} {a0_4 : Int} {A0_5 : Option Addr} {c0_5 : Nat} {l0_5 : List (S75)} {a0_6 : Int} {a0_7 : Int} {a0_8 : Int} {A0_9 : Option Addr} {c0_9 : Nat} {l0_9 : List Int} {r : Bool} {w : World} (hr0_5 : Kd.C k75 w A0_5 l0_5.length l0_5) (hc0_5 : l0_5.length ≤ c0_5) (hr0_9 : Kd.C (Kd.int .u8) w A0_9 l0_9.length l0_9) (hc0_9 : l0_9.length ≤ c0_9) (h : impl_MsgOk.f k a0_0 a0_1 a0_2 a0_3 a0_4 l0_5 a0_6 a0_7 a0_8 l0_9 = some r) :
    Calls Tryz.prog 14 #[.agg #[.int .i64 a0_0, .int .i64 a0_1, .int .i64 a0_2, .int .i64 a0_3, .int .i64 a0_4, .slice A0_5 l0_5.length c0_5, .int .i64 a0_6, .int .i64 a0_7, .int .i64 a0_8, .slice A0_9 l0_9.length c0_9]] w fun e w' => e = .returned (.bool r) ∧ Below w.heap.size w w' := by
  have hu28 := Tryz.underlying28
  have hu26 := Tryz.underlying26
  have HR0_5 := aM hr0_5
  have HC0_5 := aM hc0_5
  clear hr0_5 hc0_5
  have HR0_9 := aM hr0_9
  have HC0_9 := aM hc0_9
  clear hr0_9 hc0_9
  have HB := aM (Below.refl w.heap.size w)
  have H := h
  clear h
  unfold impl_MsgOk.f at H
  by_cases c2 : a0_0 = 1
  · rw [if_pos c2] at H
    have c2b0 : (a0_0 == 1) = true := beq_iff_eq.mpr c2
    have c2b1 : (a0_0 != 1) = false := bne_eq_false_iff_eq.mpr c2
    clear c2
    replace H := bE H
    obtain ⟨t467, A3, H⟩ := H
    go_enter Tryz.func14, Tryz.ntmps14
    go_wp2_with (first | ((with_reducible refine gate_dst (N := 1) rfl ?_); (try (refine gate_guard (by rfl) ?_; dsimp only)); refine gBx 1 #[.int .i64 a0_0, .int .i64 a0_1, .int .i64 a0_2, .int .i64 a0_3, .int .i64 a0_4, .slice A0_5 l0_5.length c0_5, .int .i64 a0_6, .int .i64 a0_7, .int .i64 a0_8, .slice A0_9 l0_9.length c0_9] 28 ?_; intro gb466 hg w5 hbox hb; have BK466 := aM (hbox); have GW466 := gW HB hg; have GE466 := gW HB hg; replace HB := bS HB hb; clear hb hbox hg; obtain ⟨hcz6_0, hcz6_1, hcz6_2, hcz6_3, hcz6_4, hcz6_5, hcz6_6, hcz6_7, hcz6_8, hcz6_9⟩ := cz10 BK466.out; obtain ⟨hfz6_0, hfz6_1, hfz6_2, hfz6_3, hfz6_4, hfz6_5, hfz6_6, hfz6_7, hfz6_8, hfz6_9⟩ := fz10 BK466.out) | ((with_reducible refine gate_callee (f := 43) rfl ?_); (with_reducible refine gate_dst (N := 9) rfl ?_); generalize hG_ : wpList _ _ _ _ _ _ = G_))
    subst hG_
    by_cases c7 : t467 = true
    · subst c7
      replace H := ifT H
      by_cases c8 : a0_2 = 0
      · rw [if_pos c8] at H
        have c8b0 : (a0_2 == 0) = true := beq_iff_eq.mpr c8
        have c8b1 : (a0_2 != 0) = false := bne_eq_false_iff_eq.mpr c8
        clear c8
        obtain rfl := oI H
        go_wp2_with (first | ((with_reducible refine gate_callee (f := 43) rfl ?_); refine gL (some 9) Tryz.func43 #[.agg #[.int .i64 a0_2, .int .i64 a0_3, .int .i64 a0_4, .slice A0_5 l0_5.length c0_5]] ?_; (with_reducible refine (impl_ManOk.calls ?side1 ?side2 A3.out).mono ?_); (case side1 => exact Zq14_0); (case side2 => exact HC0_5.out); rintro e w9 ⟨rfl, hb⟩; refine ⟨_, rfl, ?_⟩; replace BK466 := mB BK466 hb; replace HB := bS HB hb; clear hb; obtain ⟨hcz10_0, hcz10_1, hcz10_2, hcz10_3, hcz10_4, hcz10_5, hcz10_6, hcz10_7, hcz10_8, hcz10_9⟩ := cz10 BK466.out; obtain ⟨hfz10_0, hfz10_1, hfz10_2, hfz10_3, hfz10_4, hfz10_5, hfz10_6, hfz10_7, hfz10_8, hfz10_9⟩ := fz10 BK466.out))
        go_ret
        exact ⟨TE, TB⟩
      · rw [if_neg c8] at H
        have c8b0 : (a0_2 == 0) = false := beq_eq_false_iff_ne.mpr c8
        have c8b1 : (a0_2 != 0) = true := bne_iff_ne.mpr c8
        by_cases c11 : a0_1 = 0
        · rw [if_pos c11] at H
          have c11b0 : (a0_1 == 0) = true := beq_iff_eq.mpr c11
          have c11b1 : (a0_1 != 0) = false := bne_eq_false_iff_eq.mpr c11
          clear c11
          replace H := bE H
          obtain ⟨t468, A12, H⟩ := H
          obtain rfl := oI H
          go_wp2_with (first | ((with_reducible refine gate_callee (f := 43) rfl ?_); refine gL (some 9) Tryz.func43 #[.agg #[.int .i64 a0_2, .int .i64 a0_3, .int .i64 a0_4, .slice A0_5 l0_5.length c0_5]] ?_; (with_reducible refine (impl_ManOk.calls ?side1 ?side2 A3.out).mono ?_); (case side1 => exact Zq14_0); (case side2 => exact HC0_5.out); rintro e w13 ⟨rfl, hb⟩; refine ⟨_, rfl, ?_⟩; replace BK466 := mB BK466 hb; replace HB := bS HB hb; clear hb; obtain ⟨hcz14_0, hcz14_1, hcz14_2, hcz14_3, hcz14_4, hcz14_5, hcz14_6, hcz14_7, hcz14_8, hcz14_9⟩ := cz10 BK466.out; obtain ⟨hfz14_0, hfz14_1, hfz14_2, hfz14_3, hfz14_4, hfz14_5, hfz14_6, hfz14_7, hfz14_8, hfz14_9⟩ := fz10 BK466.out) | (go_at_call 44; (with_reducible refine (impl_Msg_isBare.calls ?side1 ?side2 ?side3 ?side4 A12.out).mono ?_); (case side1 => have X_ := (Kd.C_below HR0_5.out HB.out); exact TC); (case side2 => exact HC0_5.out); (case side3 => have X_ := (Kd.C_below HR0_9.out HB.out); exact TC); (case side4 => exact HC0_9.out); rintro e w15 ⟨rfl, hb⟩; replace BK466 := mB BK466 hb; replace HB := bS HB hb; clear hb))
          go_ret
          exact ⟨TE, TB⟩
        · rw [if_neg c11] at H
          have c11b0 : (a0_1 == 0) = false := beq_eq_false_iff_ne.mpr c11
          have c11b1 : (a0_1 != 0) = true := bne_iff_ne.mpr c11
          obtain rfl := oI H
          go_wp2_with (first | ((with_reducible refine gate_callee (f := 43) rfl ?_); refine gL (some 9) Tryz.func43 #[.agg #[.int .i64 a0_2, .int .i64 a0_3, .int .i64 a0_4, .slice A0_5 l0_5.length c0_5]] ?_; (with_reducible refine (impl_ManOk.calls ?side1 ?side2 A3.out).mono ?_); (case side1 => exact Zq14_0); (case side2 => exact HC0_5.out); rintro e w16 ⟨rfl, hb⟩; refine ⟨_, rfl, ?_⟩; replace BK466 := mB BK466 hb; replace HB := bS HB hb; clear hb; obtain ⟨hcz17_0, hcz17_1, hcz17_2, hcz17_3, hcz17_4, hcz17_5, hcz17_6, hcz17_7, hcz17_8, hcz17_9⟩ := cz10 BK466.out; obtain ⟨hfz17_0, hfz17_1, hfz17_2, hfz17_3, hfz17_4, hfz17_5, hfz17_6, hfz17_7, hfz17_8, hfz17_9⟩ := fz10 BK466.out))
          go_ret
          exact ⟨TE, TB⟩
    · replace c7 := bF c7
      subst c7
      replace H := ifF H
      obtain rfl := oI H
      go_wp2_with (first | ((with_reducible refine gate_callee (f := 43) rfl ?_); refine gL (some 9) Tryz.func43 #[.agg #[.int .i64 a0_2, .int .i64 a0_3, .int .i64 a0_4, .slice A0_5 l0_5.length c0_5]] ?_; (with_reducible refine (impl_ManOk.calls ?side1 ?side2 A3.out).mono ?_); (case side1 => exact Zq14_0); (case side2 => exact HC0_5.out); rintro e w18 ⟨rfl, hb⟩; refine ⟨_, rfl, ?_⟩; replace BK466 := mB BK466 hb; replace HB := bS HB hb; clear hb))
      go_ret
      exact ⟨TE, TB⟩
  · rw [if_neg c2] at H
    have c2b0 : (a0_0 == 1) = false := beq_eq_false_iff_ne.mpr c2
    have c2b1 : (a0_0 != 1) = true := bne_iff_ne.mpr c2
    by_cases c19 : a0_0 = 2
    · rw [if_pos c19] at H
      have c19b0 : (a0_0 == 2) = true := beq_iff_eq.mpr c19
      have c19b1 : (a0_0 != 2) = false := bne_eq_false_iff_eq.mpr c19
      clear c19
      replace H := bE H
      obtain ⟨t469, A20, H⟩ := H
      go_enter Tryz.func14, Tryz.ntmps14
      go_wp2_with (first | ((with_reducible refine gate_dst (N := 1) rfl ?_); (try (refine gate_guard (by rfl) ?_; dsimp only)); refine gBx 1 #[.int .i64 a0_0, .int .i64 a0_1, .int .i64 a0_2, .int .i64 a0_3, .int .i64 a0_4, .slice A0_5 l0_5.length c0_5, .int .i64 a0_6, .int .i64 a0_7, .int .i64 a0_8, .slice A0_9 l0_9.length c0_9] 28 ?_; intro gb466 hg w22 hbox hb; have BK466 := aM (hbox); have GW466 := gW HB hg; have GE466 := gW HB hg; replace HB := bS HB hb; clear hb hbox hg; obtain ⟨hcz23_0, hcz23_1, hcz23_2, hcz23_3, hcz23_4, hcz23_5, hcz23_6, hcz23_7, hcz23_8, hcz23_9⟩ := cz10 BK466.out; obtain ⟨hfz23_0, hfz23_1, hfz23_2, hfz23_3, hfz23_4, hfz23_5, hfz23_6, hfz23_7, hfz23_8, hfz23_9⟩ := fz10 BK466.out) | ((with_reducible refine gate_callee (f := 45) rfl ?_); (with_reducible refine gate_dst (N := 29) rfl ?_); generalize hG_ : wpList _ _ _ _ _ _ = G_))
      subst hG_
      by_cases c24 : t469 = true
      · subst c24
        replace H := ifT H
        replace H := bE H
        obtain ⟨t470, A25, H⟩ := H
        by_cases c26 : t470 = true
        · subst c26
          replace H := ifT H
          replace H := bE H
          obtain ⟨t471, A27, H⟩ := H
          by_cases c28 : t471 = true
          · subst c28
            replace H := ifT H
            replace H := bE H
            obtain ⟨t472, A29, H⟩ := H
            obtain rfl := oI H
            go_wp2_with (first | ((with_reducible refine gate_callee (f := 45) rfl ?_); refine gL (some 29) Tryz.func45 #[.int .i64 a0_1] ?_; (with_reducible refine (impl_isGen.calls A20.out).mono ?_); rintro e w' ⟨rfl, ⟨nd, rfl⟩⟩; refine ⟨_, rfl, ?_⟩; obtain ⟨hcz30_0, hcz30_1, hcz30_2, hcz30_3, hcz30_4, hcz30_5, hcz30_6, hcz30_7, hcz30_8, hcz30_9⟩ := cz10 BK466.out; obtain ⟨hfz30_0, hfz30_1, hfz30_2, hfz30_3, hfz30_4, hfz30_5, hfz30_6, hfz30_7, hfz30_8, hfz30_9⟩ := fz10 BK466.out) | (go_at_call 46; (with_reducible refine (impl_SetOk.calls A25.out).mono ?_); rintro e w' ⟨rfl, ⟨nd, rfl⟩⟩) | (go_at_call 46; (with_reducible refine (impl_SetOk.calls A27.out).mono ?_); rintro e w' ⟨rfl, ⟨nd, rfl⟩⟩) | (go_at_call 44; (with_reducible refine (impl_Msg_isBare.calls ?side1 ?side2 ?side3 ?side4 A29.out).mono ?_); (case side1 => exact Zq14_0); (case side2 => exact HC0_5.out); (case side3 => exact Zq14_2); (case side4 => exact HC0_9.out); rintro e w31 ⟨rfl, hb⟩; replace BK466 := mB BK466 hb; replace HB := bS HB hb; clear hb))
            go_ret
            exact ⟨TE, TB⟩
          · replace c28 := bF c28
            subst c28
            replace H := ifF H
            obtain rfl := oI H
            go_wp2_with (first | ((with_reducible refine gate_callee (f := 45) rfl ?_); refine gL (some 29) Tryz.func45 #[.int .i64 a0_1] ?_; (with_reducible refine (impl_isGen.calls A20.out).mono ?_); rintro e w' ⟨rfl, ⟨nd, rfl⟩⟩; refine ⟨_, rfl, ?_⟩; obtain ⟨hcz32_0, hcz32_1, hcz32_2, hcz32_3, hcz32_4, hcz32_5, hcz32_6, hcz32_7, hcz32_8, hcz32_9⟩ := cz10 BK466.out; obtain ⟨hfz32_0, hfz32_1, hfz32_2, hfz32_3, hfz32_4, hfz32_5, hfz32_6, hfz32_7, hfz32_8, hfz32_9⟩ := fz10 BK466.out) | (go_at_call 46; (with_reducible refine (impl_SetOk.calls A25.out).mono ?_); rintro e w' ⟨rfl, ⟨nd, rfl⟩⟩) | (go_at_call 46; (with_reducible refine (impl_SetOk.calls A27.out).mono ?_); rintro e w' ⟨rfl, ⟨nd, rfl⟩⟩))
            go_ret
            exact ⟨TE, TB⟩
        · replace c26 := bF c26
          subst c26
          replace H := ifF H
          obtain rfl := oI H
          go_wp2_with (first | ((with_reducible refine gate_callee (f := 45) rfl ?_); refine gL (some 29) Tryz.func45 #[.int .i64 a0_1] ?_; (with_reducible refine (impl_isGen.calls A20.out).mono ?_); rintro e w' ⟨rfl, ⟨nd, rfl⟩⟩; refine ⟨_, rfl, ?_⟩; obtain ⟨hcz33_0, hcz33_1, hcz33_2, hcz33_3, hcz33_4, hcz33_5, hcz33_6, hcz33_7, hcz33_8, hcz33_9⟩ := cz10 BK466.out; obtain ⟨hfz33_0, hfz33_1, hfz33_2, hfz33_3, hfz33_4, hfz33_5, hfz33_6, hfz33_7, hfz33_8, hfz33_9⟩ := fz10 BK466.out) | (go_at_call 46; (with_reducible refine (impl_SetOk.calls A25.out).mono ?_); rintro e w' ⟨rfl, ⟨nd, rfl⟩⟩))
          go_ret
          exact ⟨TE, TB⟩
      · replace c24 := bF c24
        subst c24
        replace H := ifF H
        obtain rfl := oI H
        go_wp2_with (first | ((with_reducible refine gate_callee (f := 45) rfl ?_); refine gL (some 29) Tryz.func45 #[.int .i64 a0_1] ?_; (with_reducible refine (impl_isGen.calls A20.out).mono ?_); rintro e w' ⟨rfl, ⟨nd, rfl⟩⟩; refine ⟨_, rfl, ?_⟩))
        go_ret
        exact ⟨TE, TB⟩
    · rw [if_neg c19] at H
      have c19b0 : (a0_0 == 2) = false := beq_eq_false_iff_ne.mpr c19
      have c19b1 : (a0_0 != 2) = true := bne_iff_ne.mpr c19
      by_cases c34 : a0_0 = 3
      · rw [if_pos c34] at H
        have c34b0 : (a0_0 == 3) = true := beq_iff_eq.mpr c34
        have c34b1 : (a0_0 != 3) = false := bne_eq_false_iff_eq.mpr c34
        clear c34
        replace H := bE H
        obtain ⟨t473, A35, H⟩ := H
        go_enter Tryz.func14, Tryz.ntmps14
        go_wp2_with (first | ((with_reducible refine gate_dst (N := 1) rfl ?_); (try (refine gate_guard (by rfl) ?_; dsimp only)); refine gBx 1 #[.int .i64 a0_0, .int .i64 a0_1, .int .i64 a0_2, .int .i64 a0_3, .int .i64 a0_4, .slice A0_5 l0_5.length c0_5, .int .i64 a0_6, .int .i64 a0_7, .int .i64 a0_8, .slice A0_9 l0_9.length c0_9] 28 ?_; intro gb466 hg w37 hbox hb; have BK466 := aM (hbox); have GW466 := gW HB hg; have GE466 := gW HB hg; replace HB := bS HB hb; clear hb hbox hg; obtain ⟨hcz38_0, hcz38_1, hcz38_2, hcz38_3, hcz38_4, hcz38_5, hcz38_6, hcz38_7, hcz38_8, hcz38_9⟩ := cz10 BK466.out; obtain ⟨hfz38_0, hfz38_1, hfz38_2, hfz38_3, hfz38_4, hfz38_5, hfz38_6, hfz38_7, hfz38_8, hfz38_9⟩ := fz10 BK466.out) | ((with_reducible refine gate_callee (f := 47) rfl ?_); (with_reducible refine gate_dst (N := 48) rfl ?_); generalize hG_ : wpList _ _ _ _ _ _ = G_))
        subst hG_
        by_cases c39 : t473 = true
        · subst c39
          replace H := ifT H
          replace H := bE H
          obtain ⟨t474, A40, H⟩ := H
          by_cases c41 : t474 = true
          · subst c41
            replace H := ifT H
            replace H := bE H
            obtain ⟨t475, A42, H⟩ := H
            by_cases c43 : t475 = true
            · subst c43
              replace H := ifT H
              replace H := bE H
              obtain ⟨t476, A44, H⟩ := H
              obtain rfl := oI H
              go_wp2_with (first | ((with_reducible refine gate_callee (f := 47) rfl ?_); refine gL (some 48) Tryz.func47 #[.int .i64 a0_1, .int .i64 1, .int .i64 1000000] ?_; (with_reducible refine (impl_within.calls A35.out).mono ?_); rintro e w' ⟨rfl, ⟨nd, rfl⟩⟩; refine ⟨_, rfl, ?_⟩; obtain ⟨hcz45_0, hcz45_1, hcz45_2, hcz45_3, hcz45_4, hcz45_5, hcz45_6, hcz45_7, hcz45_8, hcz45_9⟩ := cz10 BK466.out; obtain ⟨hfz45_0, hfz45_1, hfz45_2, hfz45_3, hfz45_4, hfz45_5, hfz45_6, hfz45_7, hfz45_8, hfz45_9⟩ := fz10 BK466.out) | (go_at_call 48; (with_reducible refine (impl_isPlace.calls A40.out).mono ?_); rintro e w' ⟨rfl, ⟨nd, rfl⟩⟩) | (go_at_call 47; (with_reducible refine (impl_within.calls A42.out).mono ?_); rintro e w' ⟨rfl, ⟨nd, rfl⟩⟩) | (go_at_call 44; (with_reducible refine (impl_Msg_isBare.calls ?side1 ?side2 ?side3 ?side4 A44.out).mono ?_); (case side1 => exact Zq14_0); (case side2 => exact HC0_5.out); (case side3 => exact Zq14_2); (case side4 => exact HC0_9.out); rintro e w46 ⟨rfl, hb⟩; replace BK466 := mB BK466 hb; replace HB := bS HB hb; clear hb))
              go_ret
              exact ⟨TE, TB⟩
            · replace c43 := bF c43
              subst c43
              replace H := ifF H
              obtain rfl := oI H
              go_wp2_with (first | ((with_reducible refine gate_callee (f := 47) rfl ?_); refine gL (some 48) Tryz.func47 #[.int .i64 a0_1, .int .i64 1, .int .i64 1000000] ?_; (with_reducible refine (impl_within.calls A35.out).mono ?_); rintro e w' ⟨rfl, ⟨nd, rfl⟩⟩; refine ⟨_, rfl, ?_⟩; obtain ⟨hcz47_0, hcz47_1, hcz47_2, hcz47_3, hcz47_4, hcz47_5, hcz47_6, hcz47_7, hcz47_8, hcz47_9⟩ := cz10 BK466.out; obtain ⟨hfz47_0, hfz47_1, hfz47_2, hfz47_3, hfz47_4, hfz47_5, hfz47_6, hfz47_7, hfz47_8, hfz47_9⟩ := fz10 BK466.out) | (go_at_call 48; (with_reducible refine (impl_isPlace.calls A40.out).mono ?_); rintro e w' ⟨rfl, ⟨nd, rfl⟩⟩) | (go_at_call 47; (with_reducible refine (impl_within.calls A42.out).mono ?_); rintro e w' ⟨rfl, ⟨nd, rfl⟩⟩))
              go_ret
              exact ⟨TE, TB⟩
          · replace c41 := bF c41
            subst c41
            replace H := ifF H
            obtain rfl := oI H
            go_wp2_with (first | ((with_reducible refine gate_callee (f := 47) rfl ?_); refine gL (some 48) Tryz.func47 #[.int .i64 a0_1, .int .i64 1, .int .i64 1000000] ?_; (with_reducible refine (impl_within.calls A35.out).mono ?_); rintro e w' ⟨rfl, ⟨nd, rfl⟩⟩; refine ⟨_, rfl, ?_⟩; obtain ⟨hcz48_0, hcz48_1, hcz48_2, hcz48_3, hcz48_4, hcz48_5, hcz48_6, hcz48_7, hcz48_8, hcz48_9⟩ := cz10 BK466.out; obtain ⟨hfz48_0, hfz48_1, hfz48_2, hfz48_3, hfz48_4, hfz48_5, hfz48_6, hfz48_7, hfz48_8, hfz48_9⟩ := fz10 BK466.out) | (go_at_call 48; (with_reducible refine (impl_isPlace.calls A40.out).mono ?_); rintro e w' ⟨rfl, ⟨nd, rfl⟩⟩))
            go_ret
            exact ⟨TE, TB⟩
        · replace c39 := bF c39
          subst c39
          replace H := ifF H
          obtain rfl := oI H
          go_wp2_with (first | ((with_reducible refine gate_callee (f := 47) rfl ?_); refine gL (some 48) Tryz.func47 #[.int .i64 a0_1, .int .i64 1, .int .i64 1000000] ?_; (with_reducible refine (impl_within.calls A35.out).mono ?_); rintro e w' ⟨rfl, ⟨nd, rfl⟩⟩; refine ⟨_, rfl, ?_⟩))
          go_ret
          exact ⟨TE, TB⟩
      · rw [if_neg c34] at H
        have c34b0 : (a0_0 == 3) = false := beq_eq_false_iff_ne.mpr c34
        have c34b1 : (a0_0 != 3) = true := bne_iff_ne.mpr c34
        by_cases c49 : a0_0 = 4
        · rw [if_pos c49] at H
          have c49b0 : (a0_0 == 4) = true := beq_iff_eq.mpr c49
          have c49b1 : (a0_0 != 4) = false := bne_eq_false_iff_eq.mpr c49
          clear c49
          replace H := bE H
          obtain ⟨t477, A50, H⟩ := H
          go_enter Tryz.func14, Tryz.ntmps14
          go_wp2_with (first | ((with_reducible refine gate_dst (N := 1) rfl ?_); (try (refine gate_guard (by rfl) ?_; dsimp only)); refine gBx 1 #[.int .i64 a0_0, .int .i64 a0_1, .int .i64 a0_2, .int .i64 a0_3, .int .i64 a0_4, .slice A0_5 l0_5.length c0_5, .int .i64 a0_6, .int .i64 a0_7, .int .i64 a0_8, .slice A0_9 l0_9.length c0_9] 28 ?_; intro gb466 hg w52 hbox hb; have BK466 := aM (hbox); have GW466 := gW HB hg; have GE466 := gW HB hg; replace HB := bS HB hb; clear hb hbox hg; obtain ⟨hcz53_0, hcz53_1, hcz53_2, hcz53_3, hcz53_4, hcz53_5, hcz53_6, hcz53_7, hcz53_8, hcz53_9⟩ := cz10 BK466.out; obtain ⟨hfz53_0, hfz53_1, hfz53_2, hfz53_3, hfz53_4, hfz53_5, hfz53_6, hfz53_7, hfz53_8, hfz53_9⟩ := fz10 BK466.out) | ((with_reducible refine gate_callee (f := 45) rfl ?_); (with_reducible refine gate_dst (N := 68) rfl ?_); generalize hG_ : wpList _ _ _ _ _ _ = G_))
          subst hG_
          by_cases c54 : t477 = true
          · subst c54
            replace H := ifT H
            replace H := bE H
            obtain ⟨t478, A55, H⟩ := H
            obtain rfl := oI H
            go_wp2_with (first | ((with_reducible refine gate_callee (f := 45) rfl ?_); refine gL (some 68) Tryz.func45 #[.int .i64 a0_1] ?_; (with_reducible refine (impl_isGen.calls A50.out).mono ?_); rintro e w' ⟨rfl, ⟨nd, rfl⟩⟩; refine ⟨_, rfl, ?_⟩; obtain ⟨hcz56_0, hcz56_1, hcz56_2, hcz56_3, hcz56_4, hcz56_5, hcz56_6, hcz56_7, hcz56_8, hcz56_9⟩ := cz10 BK466.out; obtain ⟨hfz56_0, hfz56_1, hfz56_2, hfz56_3, hfz56_4, hfz56_5, hfz56_6, hfz56_7, hfz56_8, hfz56_9⟩ := fz10 BK466.out) | (go_at_call 44; (with_reducible refine (impl_Msg_isBare.calls ?side1 ?side2 ?side3 ?side4 A55.out).mono ?_); (case side1 => exact Zq14_0); (case side2 => exact HC0_5.out); (case side3 => exact Zq14_2); (case side4 => exact HC0_9.out); rintro e w57 ⟨rfl, hb⟩; replace BK466 := mB BK466 hb; replace HB := bS HB hb; clear hb))
            go_ret
            exact ⟨TE, TB⟩
          · replace c54 := bF c54
            subst c54
            replace H := ifF H
            obtain rfl := oI H
            go_wp2_with (first | ((with_reducible refine gate_callee (f := 45) rfl ?_); refine gL (some 68) Tryz.func45 #[.int .i64 a0_1] ?_; (with_reducible refine (impl_isGen.calls A50.out).mono ?_); rintro e w' ⟨rfl, ⟨nd, rfl⟩⟩; refine ⟨_, rfl, ?_⟩))
            go_ret
            exact ⟨TE, TB⟩
        · rw [if_neg c49] at H
          have c49b0 : (a0_0 == 4) = false := beq_eq_false_iff_ne.mpr c49
          have c49b1 : (a0_0 != 4) = true := bne_iff_ne.mpr c49
          obtain rfl := oI H
          go_enter Tryz.func14, Tryz.ntmps14
          go_wp2_with (first | ((with_reducible refine gate_dst (N := 1) rfl ?_); (try (refine gate_guard (by rfl) ?_; dsimp only)); refine gBx 1 #[.int .i64 a0_0, .int .i64 a0_1, .int .i64 a0_2, .int .i64 a0_3, .int .i64 a0_4, .slice A0_5 l0_5.length c0_5, .int .i64 a0_6, .int .i64 a0_7, .int .i64 a0_8, .slice A0_9 l0_9.length c0_9] 28 ?_; intro gb466 hg w58 hbox hb; have BK466 := aM (hbox); have GW466 := gW HB hg; have GE466 := gW HB hg; replace HB := bS HB hb; clear hb hbox hg; obtain ⟨hcz59_0, hcz59_1, hcz59_2, hcz59_3, hcz59_4, hcz59_5, hcz59_6, hcz59_7, hcz59_8, hcz59_9⟩ := cz10 BK466.out; obtain ⟨hfz59_0, hfz59_1, hfz59_2, hfz59_3, hfz59_4, hfz59_5, hfz59_6, hfz59_7, hfz59_8, hfz59_9⟩ := fz10 BK466.out))
          go_ret
          exact ⟨TE, TB⟩
def impl_cloned.f (l0 : List Int) : Option (List Int) := if l0.length ≤ 140737488355328 then (some l0) else (none)
theorem impl_cloned.calls {A0 : Option Addr} {c0 : Nat} {l0 : List Int} {r : List Int} {w : World} (hr0 : Kd.C (Kd.int .u8) w A0 l0.length l0) (hc0 : l0.length ≤ c0) (h : impl_cloned.f l0 = some r) :
    Calls Tryz.prog 57 #[.slice A0 l0.length c0] w fun e w' => ∃ v0_ : Value, e = .returned (v0_) ∧ Kd.R (Kd.int .u8) 5 w' w.heap.size (fun _ => True) v0_ r ∧ Below w.heap.size w w' := by
  have HR0 := Aside0.mk hr0
  clear hr0 hc0
  unfold impl_cloned.f at h
  by_cases hl : l0.length ≤ 140737488355328
  · rw [if_pos hl] at h
    obtain rfl := Option.some.inj h
    have HL := Aside0.mk hl
    clear h hl
    obtain ⟨i0, hi, hzz⟩ := Option.map_eq_some_iff.1 info5
    simp only [Prod.mk.injEq] at hzz
    have HZ := Aside0.mk hzz
    have HI := Aside0.mk hi
    clear hi hzz
    go_enter Tryz.func57, Tryz.ntmps57
    go_wp2_with (first | (at_make; refine wpList_make_own _ rfl _ _ 22 rfl w.heap.size 5 i0 (.int .u8 0) 1 Tryz.underlying22 HI.out HZ.out.1 HZ.out.2.1 _ _ _ l0.length rfl rfl rfl ?mb ?mm ?ms ?_; (case mb => rw [HZ.out.2.2]; have := HL.out; omega); (case mm => have := HL.out; simp only [maxLen]; omega); (case ms => exact Nat.le_refl _); intro w1 ho hg; have HO := Aside0.mk (show Kd.R (Kd.int .u8) 5 w1 w.heap.size (fun _ => True) (.slice (some ⟨w.heap.size, 0, none⟩) 0 l0.length) [] from ⟨fun _ _ => trivial, [], ho, Reps.none _ _⟩); have HB := Aside0.mk (show Below w.heap.size w w1 from pw_below_grown (Below.refl _ _) none (Nat.le_refl _) hg (by simp)); clear ho hg) | ((with_reducible refine gate_builtin (b := .append) (xs := #[.tmp 5, .tmp 6]) rfl ?_); at_builtin; refine Kd.R_append_rows (Kd.int .u8) (w0 := w) w.heap.size rfl (.tmp 5) (.tmp 6) 22 5 (.int .u8 0) 1 rfl Tryz.underlying22 info5 rfl (by decide) (by omega) (.slice (some ⟨w.heap.size, 0, none⟩) 0 l0.length) [] l0 A0 _ _ (fun _ => True) (fun _ => False) rfl rfl ?aO ?aR (fun _ _ h => h) (fun _ h => h.elim) ?aF ?aB ?aS ?aL ?_; (case aR => exact Kd.C_below HR0.out HB.out); (case aB => exact HB.out); (case aF => exact (fun _ _ => trivial)); (case aO => exact HO.out); (case aS => exact below_size HB.out); (case aL => have := HL.out; simp only [List.length_nil]; omega); intro v2 w2 ho2 hb2 hg2 hat2; have HO2 := Aside0.mk ho2; have HB2 := Aside0.mk hb2; clear HO HB ho2 hb2 hg2 hat2))
    go_ret
    exact ⟨_, rfl, by simpa using HO2.out, HB2.out⟩
  · rw [if_neg hl] at h
    cases h
def impl_appendVar.l0 : Nat → List Int → Int → Option (List Int)
  | 0, _, _ => none
  | k + 1, x0, x1 => if x1 ≥ 128 then (if x0.length < 140737488355328 then (impl_appendVar.l0 k (x0 ++ [Go.bits .or .u8 ((x1) % 256) 128]) (x1 / 128)) else (none)) else (if x0.length < 140737488355328 then (some (x0 ++ [(x1) % 256])) else (none))
def impl_appendVar.f (k : Nat) (l0 : List Int) (a1 : Int) : Option (List Int) := impl_appendVar.l0 k l0 a1
theorem impl_appendVar.mono_l : ∀ k, (∀ y0 y1, LeO (impl_appendVar.l0 k y0 y1) (impl_appendVar.l0 (k + 1) y0 y1))
  | 0 => fun _ _ r h => by simp [impl_appendVar.l0] at h
  | k + 1 => by
    have ih0 := impl_appendVar.mono_l k
    · intro y0 y1
      unfold impl_appendVar.l0
      exact LM
theorem impl_appendVar.mono : ∀ a0 a1 k, LeO (impl_appendVar.f k a0 a1) (impl_appendVar.f (k + 1) a0 a1) := by
  intro a0 a1 k;have ih0 := impl_appendVar.mono_l k;unfold impl_appendVar.f;exact LM
theorem impl_appendVar.calls {k : Nat} (P0_ : Nat → Prop) (ac : Value) (l0 : List Int) (a1 : Int) (r : List Int) (w0 w : World) (hB : Below w0.heap.size w0 w) (ho0 : Kd.R (Kd.int .u8) 5 w w0.heap.size P0_ ac l0) (h : impl_appendVar.f k l0 a1 = some r) :
  Calls Tryz.prog 63 #[ac, .int .i64 a1] w fun e w' => ∃ v0_ : Value, e = .returned (v0_) ∧ Kd.R (Kd.int .u8) 5 w' w0.heap.size (fun k_ => (P0_ k_ ∨ w.heap.size ≤ k_)) v0_ r ∧ Below w0.heap.size w0 w' ∧ Kept w w' (fun k_ => P0_ k_) := by
 have HOq1 := aM (show Kd.R (Kd.int .u8) 5 w w0.heap.size (fun k_ => (P0_ k_ ∨ w.heap.size ≤ k_)) ac l0 from Kd.R_mono ho0 (fun k_ hk => (.inl hk)));have HK := aM (Kept.refl w (fun k_ => P0_ k_));have HWq1 := aM hB.size;have HB := aM hB;clear hB;have H := h;clear h;unfold impl_appendVar.f at H;have H' := aM H;clear H;go_enter Tryz.func63, Tryz.ntmps63;go_wp2
 go_loopg [0, 1] k (fun kq vq1 vq2 w' => ∃ (xq1 : List Int) (xq2 : Int), vq2 = .int .i64 xq2 ∧ Aside0 (impl_appendVar.l0 kq xq1 xq2 = some r) ∧ Aside0 (kq ≤ k) ∧ Aside0 (Kd.R (Kd.int .u8) 5 w' w0.heap.size (fun k_ => (P0_ k_ ∨ w.heap.size ≤ k_)) vq1 xq1) ∧ Aside0 (Kept w w' (fun k_ => P0_ k_)) ∧ Aside0 (Below w0.heap.size w0 w'))
 case atStart => exact ⟨(l0), (a1), TF, H', ⟨Nat.le_refl _⟩, ⟨by have X_ := HOq1.out; exact TR⟩, ⟨by repeat (first | (with_reducible first | exact HK.out | apply Kept.alloc | apply Kept.drewN | apply Kept.drew) | exact HK.out)⟩, ⟨TB⟩⟩
 case round =>
  clear H';obtain ⟨xq1, xq2, rfl, HA, HKq1, ab, HK, HB⟩ := hrel;cases gk with
  | zero => exact absurd HA.out (by simp [impl_appendVar.l0])
  | succ k1 =>
   have H := HA.out;clear HA;simp only [impl_appendVar.l0] at H
   by_cases cq1 : xq2 ≥ 128
   ·rw [if_pos cq1] at H;have cq2 : decide (128 ≤ xq2) = true := decide_eq_true cq1;clear cq1;replace H := ifN H;obtain ⟨cq3, H⟩ := H;have ad := aM cq3;clear cq3;obtain ⟨yq1, aa⟩ : ∃ y_ : List Int, y_ = (xq1 ++ [Go.bits .or .u8 ((xq2) % 256) 128]) := ⟨_, rfl⟩;rw [← aa] at H;have ae := aM aa;clear aa;have H' := aM H;clear H;go_wp2_with (first | ((with_reducible refine gate_builtin (b := .append) (xs := #[.tmp 7, .tmp 11]) rfl ?_); at_builtin; refine Kd.R_append (Kd.int .u8) (w0 := w0) w0.heap.size rfl (.tmp 7) (.tmp 11) 22 5 (.int .u8 0) 1 rfl Tryz.underlying22 info5 rfl (by decide) (by omega) u0 xq1 (Go.bits .or .u8 ((xq2) % 256) 128) [.int .u8 (Go.bits .or .u8 ((xq2) % 256) 128)] (fun k_ => (P0_ k_ ∨ w.heap.size ≤ k_)) (fun _ => False) rfl rfl ?aP (fun _ hk => hk.elim) ?aF ?aO ?aB ?aS ?aL ?_; (case aP => exact rfl); (case aB => exact TB); (case aF => exact Zq14_3); (case aO => exact (TRf ab)); (case aS => exact (below_size TB)); (case aL => have := ad.out; omega); intro vq3 w5 ho hb hg hat; rw [← ae.out] at ho; have HOq3 := aM (ho); replace HB := aM (hb); replace HK := aM (Kept.of_grown (S := (fun k_ => P0_ k_)) hg (by exact Zq14_1) (fun k_ e_ => (ab.out.1 k_ e_))); clear ab; clear ho hb hg hat))
    go_roundg k1
    case measure => have := HKq1.out; omega
    case rel => exact ⟨(yq1), (xq2 / 128), TF, H', ⟨by have := HKq1.out; omega⟩, ⟨by have X_ := HOq3.out; exact TR⟩, ⟨by repeat (first | (with_reducible first | exact HK.out | apply Kept.alloc | apply Kept.drewN | apply Kept.drew) | exact HK.out)⟩, ⟨TB⟩⟩
   ·rw [if_neg cq1] at H;have cq2 : decide (128 ≤ xq2) = false := decide_eq_false cq1;clear cq1;replace H := ifN H;obtain ⟨cq3, H⟩ := H;have ad := aM cq3;clear cq3;obtain ⟨yq1, aa⟩ : ∃ y_ : List Int, y_ = (xq1 ++ [(xq2) % 256]) := ⟨_, rfl⟩;rw [← aa] at H;have ae := aM aa;clear aa;obtain rfl := oI H;go_wp2_with (first | ((with_reducible refine gate_builtin (b := .append) (xs := #[.tmp 15, .tmp 18]) rfl ?_); at_builtin; refine Kd.R_append (Kd.int .u8) (w0 := w0) w0.heap.size rfl (.tmp 15) (.tmp 18) 22 5 (.int .u8 0) 1 rfl Tryz.underlying22 info5 rfl (by decide) (by omega) u0 xq1 ((xq2) % 256) [.int .u8 ((xq2) % 256)] (fun k_ => (P0_ k_ ∨ w.heap.size ≤ k_)) (fun _ => False) rfl rfl ?aP (fun _ hk => hk.elim) ?aF ?aO ?aB ?aS ?aL ?_; (case aP => exact rfl); (case aB => exact TB); (case aF => exact Zq14_3); (case aO => exact (TRf ab)); (case aS => exact (below_size TB)); (case aL => have := ad.out; omega); intro vq3 wq1 ho hb hg hat; rw [← ae.out] at ho; have HOq3 := aM (ho); replace HB := aM (hb); replace HK := aM (Kept.of_grown (S := (fun k_ => P0_ k_)) hg (by exact Zq14_1) (fun k_ e_ => (ab.out.1 k_ e_))); clear ab; clear ho hb hg hat))
    go_ret
    exact ⟨_, TE, by have X_ := HOq3.out; exact TR, TB, by repeat (first | (with_reducible first | exact HK.out | apply Kept.alloc | apply Kept.drewN | apply Kept.drew) | exact HK.out)⟩
end Go.Proofs.YtanpaipapcjpoaaGreatDoor.Q
