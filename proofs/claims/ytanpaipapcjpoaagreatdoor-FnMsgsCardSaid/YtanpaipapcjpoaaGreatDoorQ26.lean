/- Functions of the program as plain Lean functions, and that a call of each comes to what its function tells. Written by a program of this seat. -/
import Derived.Test.YtanpaipapcjpoaaGreatDoorShelf
import Derived.Lib.SmallJoins
import Derived.Lib.AppendIntMem
import Derived.Test.YtanpaipapcjpoaaGreatDoorQ0
import Derived.Test.YtanpaipapcjpoaaGreatDoorQ18
import Derived.Test.YtanpaipapcjpoaaGreatDoorQ25
set_option maxHeartbeats 40000000
set_option maxRecDepth 100000
namespace Go.Proofs.YtanpaipapcjpoaaGreatDoor.Q
open Go.RowKit Go.Proofs.YtanpaipapcjpoaaGreatDoorW.PrintWords Go.Proofs.YtanpaipapcjpoaaGreatDoorW.PrintLast Go.Proofs.YtanpaipapcjpoaaGreatDoorW.PrintMore
attribute [local go_sem] min2_int min_two
set_option linter.unusedVariables false
set_option linter.unusedSimpArgs false
theorem Zq26_0 {p : Prop} (h : p := by have X_ := (Kd.C_below HR0_5.out HB.out); exact TC) : p := h
theorem Zq26_1 {p : Prop} (h : p := by have X_ := (Kd.C_below HR1_5.out HB.out); exact TC) : p := h
def laws_sameMan.f (k : Nat) (a0_0 : Int) (a0_1 : Int) (a0_2 : Int) (l0_3 : List (S75)) (a1_0 : Int) (a1_1 : Int) (a1_2 : Int) (l1_3 : List (S75)) : Option (Bool) := if a0_0 = a1_0 then (if a0_1 = a1_1 then (if a0_2 = a1_2 then ((laws_sameSums.f k l0_3 l1_3).bind fun t818 => (some t818)) else (some false)) else (some false)) else (some false)
theorem laws_sameMan.mono : ∀ a0 a1 a2 a3 a4 a5 a6 a7 k, LeO (laws_sameMan.f k a0 a1 a2 a3 a4 a5 a6 a7) (laws_sameMan.f (k + 1) a0 a1 a2 a3 a4 a5 a6 a7) := by
  intro a0 a1 a2 a3 a4 a5 a6 a7 k;have m0_ := @laws_sameSums.mono;unfold laws_sameMan.f;exact LM
theorem laws_sameMan.calls {k : Nat} {a0_0 : Int} {a0_1 : Int} {a0_2 : Int} {A0_3 : Option Addr} {c0_3 : Nat} {l0_3 : List (S75)} {a1_0 : Int} {a1_1 : Int} {a1_2 : Int} {A1_3 : Option Addr} {c1_3 : Nat} {l1_3 : List (S75)} {r : Bool} {w : World} (hr0_3 : Kd.C k75 w A0_3 l0_3.length l0_3) (hc0_3 : l0_3.length ≤ c0_3) (hr1_3 : Kd.C k75 w A1_3 l1_3.length l1_3) (hc1_3 : l1_3.length ≤ c1_3) (h : laws_sameMan.f k a0_0 a0_1 a0_2 l0_3 a1_0 a1_1 a1_2 l1_3 = some r) :
    Calls Tryz.prog 42 #[.agg #[.int .i64 a0_0, .int .i64 a0_1, .int .i64 a0_2, .slice A0_3 l0_3.length c0_3], .agg #[.int .i64 a1_0, .int .i64 a1_1, .int .i64 a1_2, .slice A1_3 l1_3.length c1_3]] w fun e w' => e = .returned (.bool r) ∧ Below w.heap.size w w' := by
  have hu26 := Tryz.underlying26
  have HR0_3 := aM hr0_3
  have HC0_3 := aM hc0_3
  clear hr0_3 hc0_3
  have HR1_3 := aM hr1_3
  have HC1_3 := aM hc1_3
  clear hr1_3 hc1_3
  have HB := aM (Below.refl w.heap.size w)
  have H := h
  clear h
  unfold laws_sameMan.f at H
  by_cases c3 : a0_0 = a1_0
  · rw [if_pos c3] at H
    have c3b0 : (a0_0 == a1_0) = true := beq_iff_eq.mpr c3
    have c3b1 : (a0_0 != a1_0) = false := bne_eq_false_iff_eq.mpr c3
    clear c3
    by_cases c4 : a0_1 = a1_1
    · rw [if_pos c4] at H
      have c4b0 : (a0_1 == a1_1) = true := beq_iff_eq.mpr c4
      have c4b1 : (a0_1 != a1_1) = false := bne_eq_false_iff_eq.mpr c4
      clear c4
      by_cases c5 : a0_2 = a1_2
      · rw [if_pos c5] at H
        have c5b0 : (a0_2 == a1_2) = true := beq_iff_eq.mpr c5
        have c5b1 : (a0_2 != a1_2) = false := bne_eq_false_iff_eq.mpr c5
        clear c5
        replace H := bE H
        obtain ⟨t818, A6, H⟩ := H
        obtain rfl := oI H
        go_enter Tryz.func42, Tryz.ntmps42
        go_wp2_with (first | ((with_reducible refine gate_dst (N := 2) rfl ?_); refine gBx 2 #[.int .i64 a0_0, .int .i64 a0_1, .int .i64 a0_2, .slice A0_3 l0_3.length c0_3] 26 ?_; intro gb816 hg w7 hbox hb; have BK816 := aM (hbox); have GW816 := gW HB hg; have GE816 := gW HB hg; replace HB := bS HB hb; clear hb hbox hg) | ((with_reducible refine gate_dst (N := 3) rfl ?_); refine gBx 3 #[.int .i64 a1_0, .int .i64 a1_1, .int .i64 a1_2, .slice A1_3 l1_3.length c1_3] 26 ?_; intro gb817 hg w8 hbox hb; have BK817 := aM (hbox); have GW817 := gW HB hg; have GE817 := gW HB hg; obtain ⟨NB816_817, NB817_816⟩ := nB BK816 hg; replace BK816 := mB BK816 hb; replace HB := bS HB hb; clear hb hbox hg; obtain ⟨hnb9, hnc9⟩ := oB NB816_817; obtain ⟨hcz10_0, hcz10_1, hcz10_2, hcz10_3⟩ := cz4 BK816.out; obtain ⟨hfz10_0, hfz10_1, hfz10_2, hfz10_3⟩ := fz4 BK816.out; obtain ⟨hcz11_0, hcz11_1, hcz11_2, hcz11_3⟩ := cz4 BK817.out; obtain ⟨hfz11_0, hfz11_1, hfz11_2, hfz11_3⟩ := fz4 BK817.out) | (go_at_call 70; (with_reducible refine (laws_sameSums.calls ?side1 ?side2 ?side3 ?side4 A6.out).mono ?_); (case side1 => have X_ := (Kd.C_below HR0_3.out HB.out); exact TC); (case side2 => exact HC0_3.out); (case side3 => have X_ := (Kd.C_below HR1_3.out HB.out); exact TC); (case side4 => exact HC1_3.out); rintro e w' ⟨rfl, ⟨nd, rfl⟩⟩))
        go_ret
        exact ⟨TE, TB⟩
      · rw [if_neg c5] at H
        have c5b0 : (a0_2 == a1_2) = false := beq_eq_false_iff_ne.mpr c5
        have c5b1 : (a0_2 != a1_2) = true := bne_iff_ne.mpr c5
        obtain rfl := oI H
        go_enter Tryz.func42, Tryz.ntmps42
        go_wp2_with (first | ((with_reducible refine gate_dst (N := 2) rfl ?_); refine gBx 2 #[.int .i64 a0_0, .int .i64 a0_1, .int .i64 a0_2, .slice A0_3 l0_3.length c0_3] 26 ?_; intro gb816 hg w12 hbox hb; have BK816 := aM (hbox); have GW816 := gW HB hg; have GE816 := gW HB hg; replace HB := bS HB hb; clear hb hbox hg) | ((with_reducible refine gate_dst (N := 3) rfl ?_); refine gBx 3 #[.int .i64 a1_0, .int .i64 a1_1, .int .i64 a1_2, .slice A1_3 l1_3.length c1_3] 26 ?_; intro gb817 hg w13 hbox hb; have BK817 := aM (hbox); have GW817 := gW HB hg; have GE817 := gW HB hg; obtain ⟨NB816_817, NB817_816⟩ := nB BK816 hg; replace BK816 := mB BK816 hb; replace HB := bS HB hb; clear hb hbox hg; obtain ⟨hnb14, hnc14⟩ := oB NB816_817; obtain ⟨hcz15_0, hcz15_1, hcz15_2, hcz15_3⟩ := cz4 BK816.out; obtain ⟨hfz15_0, hfz15_1, hfz15_2, hfz15_3⟩ := fz4 BK816.out; obtain ⟨hcz16_0, hcz16_1, hcz16_2, hcz16_3⟩ := cz4 BK817.out; obtain ⟨hfz16_0, hfz16_1, hfz16_2, hfz16_3⟩ := fz4 BK817.out))
        go_ret
        exact ⟨TE, TB⟩
    · rw [if_neg c4] at H
      have c4b0 : (a0_1 == a1_1) = false := beq_eq_false_iff_ne.mpr c4
      have c4b1 : (a0_1 != a1_1) = true := bne_iff_ne.mpr c4
      obtain rfl := oI H
      go_enter Tryz.func42, Tryz.ntmps42
      go_wp2_with (first | ((with_reducible refine gate_dst (N := 2) rfl ?_); refine gBx 2 #[.int .i64 a0_0, .int .i64 a0_1, .int .i64 a0_2, .slice A0_3 l0_3.length c0_3] 26 ?_; intro gb816 hg w17 hbox hb; have BK816 := aM (hbox); have GW816 := gW HB hg; have GE816 := gW HB hg; replace HB := bS HB hb; clear hb hbox hg) | ((with_reducible refine gate_dst (N := 3) rfl ?_); refine gBx 3 #[.int .i64 a1_0, .int .i64 a1_1, .int .i64 a1_2, .slice A1_3 l1_3.length c1_3] 26 ?_; intro gb817 hg w18 hbox hb; have BK817 := aM (hbox); have GW817 := gW HB hg; have GE817 := gW HB hg; obtain ⟨NB816_817, NB817_816⟩ := nB BK816 hg; replace BK816 := mB BK816 hb; replace HB := bS HB hb; clear hb hbox hg; obtain ⟨hnb19, hnc19⟩ := oB NB816_817; obtain ⟨hcz20_0, hcz20_1, hcz20_2, hcz20_3⟩ := cz4 BK816.out; obtain ⟨hfz20_0, hfz20_1, hfz20_2, hfz20_3⟩ := fz4 BK816.out; obtain ⟨hcz21_0, hcz21_1, hcz21_2, hcz21_3⟩ := cz4 BK817.out; obtain ⟨hfz21_0, hfz21_1, hfz21_2, hfz21_3⟩ := fz4 BK817.out))
      go_ret
      exact ⟨TE, TB⟩
  · rw [if_neg c3] at H
    have c3b0 : (a0_0 == a1_0) = false := beq_eq_false_iff_ne.mpr c3
    have c3b1 : (a0_0 != a1_0) = true := bne_iff_ne.mpr c3
    obtain rfl := oI H
    go_enter Tryz.func42, Tryz.ntmps42
    go_wp2_with (first | ((with_reducible refine gate_dst (N := 2) rfl ?_); refine gBx 2 #[.int .i64 a0_0, .int .i64 a0_1, .int .i64 a0_2, .slice A0_3 l0_3.length c0_3] 26 ?_; intro gb816 hg w22 hbox hb; have BK816 := aM (hbox); have GW816 := gW HB hg; have GE816 := gW HB hg; replace HB := bS HB hb; clear hb hbox hg) | ((with_reducible refine gate_dst (N := 3) rfl ?_); refine gBx 3 #[.int .i64 a1_0, .int .i64 a1_1, .int .i64 a1_2, .slice A1_3 l1_3.length c1_3] 26 ?_; intro gb817 hg w23 hbox hb; have BK817 := aM (hbox); have GW817 := gW HB hg; have GE817 := gW HB hg; obtain ⟨NB816_817, NB817_816⟩ := nB BK816 hg; replace BK816 := mB BK816 hb; replace HB := bS HB hb; clear hb hbox hg; obtain ⟨hnb24, hnc24⟩ := oB NB816_817; obtain ⟨hcz25_0, hcz25_1, hcz25_2, hcz25_3⟩ := cz4 BK816.out; obtain ⟨hfz25_0, hfz25_1, hfz25_2, hfz25_3⟩ := fz4 BK816.out; obtain ⟨hcz26_0, hcz26_1, hcz26_2, hcz26_3⟩ := cz4 BK817.out; obtain ⟨hfz26_0, hfz26_1, hfz26_2, hfz26_3⟩ := fz4 BK817.out))
    go_ret
    exact ⟨TE, TB⟩
def laws_sameMsg.f (k : Nat) (a0_0 : Int) (a0_1 : Int) (a0_2 : Int) (a0_3 : Int) (a0_4 : Int) (l0_5 : List (S75)) (a0_6 : Int) (a0_7 : Int) (a0_8 : Int) (l0_9 : List Int) (a1_0 : Int) (a1_1 : Int) (a1_2 : Int) (a1_3 : Int) (a1_4 : Int) (l1_5 : List (S75)) (a1_6 : Int) (a1_7 : Int) (a1_8 : Int) (l1_9 : List Int) : Option (Bool) := if a0_0 = a1_0 then (if a0_1 = a1_1 then ((laws_sameMan.f k a0_2 a0_3 a0_4 l0_5 a1_2 a1_3 a1_4 l1_5).bind fun t821 => (if t821 = true then (if a0_6 = a1_6 then (if a0_7 = a1_7 then (if a0_8 = a1_8 then ((laws_same.f k l0_9 l1_9).bind fun t822 => (some t822)) else (some false)) else (some false)) else (some false)) else (some false))) else (some false)) else (some false)
theorem laws_sameMsg.mono : ∀ a0 a1 a2 a3 a4 a5 a6 a7 a8 a9 a10 a11 a12 a13 a14 a15 a16 a17 a18 a19 k, LeO (laws_sameMsg.f k a0 a1 a2 a3 a4 a5 a6 a7 a8 a9 a10 a11 a12 a13 a14 a15 a16 a17 a18 a19) (laws_sameMsg.f (k + 1) a0 a1 a2 a3 a4 a5 a6 a7 a8 a9 a10 a11 a12 a13 a14 a15 a16 a17 a18 a19) := by
  intro a0 a1 a2 a3 a4 a5 a6 a7 a8 a9 a10 a11 a12 a13 a14 a15 a16 a17 a18 a19 k;have m0_ := @laws_same.mono;have m1_ := @laws_sameMan.mono;unfold laws_sameMsg.f;exact LM
theorem laws_sameMsg.calls {k : Nat} {a0_0 : Int} {a0_1 : Int} {a0_2 : Int} {a0_3 : Int} {a0_4 : Int} {A0_5 : Option Addr} {c0_5 : Nat} {l0_5 : List (S75)} {a0_6 : Int} {a0_7 : Int} {a0_8 : Int} {A0_9 : Option Addr} {c0_9 : Nat} {l0_9 : List Int} {a1_0 : Int} {a1_1 : Int} {a1_2 : Int} {a1_3 : Int} {a1_4 : Int} {A1_5 : Option Addr} {c1_5 : Nat} {l1_5 : List (S75)} {a1_6 : Int} {a1_7 : Int} {a1_8 : Int} {A1_9 : Option Addr} {c1_9 : Nat} {l1_9 : List Int} {r : Bool} {w : World} (hr0_5 : Kd.C k75 w A0_5 l0_5.length l0_5) (hc0_5 : l0_5.length ≤ c0_5) (hr0_9 : Kd.C (Kd.int .u8) w A0_9 l0_9.length l0_9) (hc0_9 : l0_9.length ≤ c0_9) (hr1_5 : Kd.C k75 w A1_5 l1_5.length l1_5) (hc1_5 : l1_5.length ≤ c1_5) (hr1_9 : Kd.C (Kd.int .u8) w A1_9 l1_9.length l1_9) (hc1_9 : l1_9.length ≤ c1_9) (h : laws_sameMsg.f k a0_0 a0_1 a0_2 a0_3 a0_4 l0_5 a0_6 a0_7 a0_8 l0_9 a1_0 a1_1 a1_2 a1_3 a1_4 l1_5 a1_6 a1_7 a1_8 l1_9 = some r) :
    Calls Tryz.prog 13 #[.agg #[.int .i64 a0_0, .int .i64 a0_1, .int .i64 a0_2, .int .i64 a0_3, .int .i64 a0_4, .slice A0_5 l0_5.length c0_5, .int .i64 a0_6, .int .i64 a0_7, .int .i64 a0_8, .slice A0_9 l0_9.length c0_9], .agg #[.int .i64 a1_0, .int .i64 a1_1, .int .i64 a1_2, .int .i64 a1_3, .int .i64 a1_4, .slice A1_5 l1_5.length c1_5, .int .i64 a1_6, .int .i64 a1_7, .int .i64 a1_8, .slice A1_9 l1_9.length c1_9]] w fun e w' => e = .returned (.bool r) ∧ Below w.heap.size w w' := by
  have hu28 := Tryz.underlying28
  have hu26 := Tryz.underlying26
  have HR0_5 := aM hr0_5
  have HC0_5 := aM hc0_5
  clear hr0_5 hc0_5
  have HR0_9 := aM hr0_9
  have HC0_9 := aM hc0_9
  clear hr0_9 hc0_9
  have HR1_5 := aM hr1_5
  have HC1_5 := aM hc1_5
  clear hr1_5 hc1_5
  have HR1_9 := aM hr1_9
  have HC1_9 := aM hc1_9
  clear hr1_9 hc1_9
  have HB := aM (Below.refl w.heap.size w)
  have H := h
  clear h
  unfold laws_sameMsg.f at H
  by_cases c3 : a0_0 = a1_0
  · rw [if_pos c3] at H
    have c3b0 : (a0_0 == a1_0) = true := beq_iff_eq.mpr c3
    have c3b1 : (a0_0 != a1_0) = false := bne_eq_false_iff_eq.mpr c3
    clear c3
    by_cases c4 : a0_1 = a1_1
    · rw [if_pos c4] at H
      have c4b0 : (a0_1 == a1_1) = true := beq_iff_eq.mpr c4
      have c4b1 : (a0_1 != a1_1) = false := bne_eq_false_iff_eq.mpr c4
      clear c4
      replace H := bE H
      obtain ⟨t821, A5, H⟩ := H
      by_cases c6 : t821 = true
      · subst c6
        replace H := ifT H
        by_cases c7 : a0_6 = a1_6
        · rw [if_pos c7] at H
          have c7b0 : (a0_6 == a1_6) = true := beq_iff_eq.mpr c7
          have c7b1 : (a0_6 != a1_6) = false := bne_eq_false_iff_eq.mpr c7
          clear c7
          by_cases c8 : a0_7 = a1_7
          · rw [if_pos c8] at H
            have c8b0 : (a0_7 == a1_7) = true := beq_iff_eq.mpr c8
            have c8b1 : (a0_7 != a1_7) = false := bne_eq_false_iff_eq.mpr c8
            clear c8
            by_cases c9 : a0_8 = a1_8
            · rw [if_pos c9] at H
              have c9b0 : (a0_8 == a1_8) = true := beq_iff_eq.mpr c9
              have c9b1 : (a0_8 != a1_8) = false := bne_eq_false_iff_eq.mpr c9
              clear c9
              replace H := bE H
              obtain ⟨t822, A10, H⟩ := H
              obtain rfl := oI H
              go_enter Tryz.func13, Tryz.ntmps13
              go_wp2_with (first | ((with_reducible refine gate_dst (N := 2) rfl ?_); refine gBx 2 #[.int .i64 a0_0, .int .i64 a0_1, .int .i64 a0_2, .int .i64 a0_3, .int .i64 a0_4, .slice A0_5 l0_5.length c0_5, .int .i64 a0_6, .int .i64 a0_7, .int .i64 a0_8, .slice A0_9 l0_9.length c0_9] 28 ?_; intro gb819 hg w11 hbox hb; have BK819 := aM (hbox); have GW819 := gW HB hg; have GE819 := gW HB hg; replace HB := bS HB hb; clear hb hbox hg) | ((with_reducible refine gate_dst (N := 3) rfl ?_); refine gBx 3 #[.int .i64 a1_0, .int .i64 a1_1, .int .i64 a1_2, .int .i64 a1_3, .int .i64 a1_4, .slice A1_5 l1_5.length c1_5, .int .i64 a1_6, .int .i64 a1_7, .int .i64 a1_8, .slice A1_9 l1_9.length c1_9] 28 ?_; intro gb820 hg w12 hbox hb; have BK820 := aM (hbox); have GW820 := gW HB hg; have GE820 := gW HB hg; obtain ⟨NB819_820, NB820_819⟩ := nB BK819 hg; replace BK819 := mB BK819 hb; replace HB := bS HB hb; clear hb hbox hg; obtain ⟨hnb13, hnc13⟩ := oB NB819_820; obtain ⟨hcz14_0, hcz14_1, hcz14_2, hcz14_3, hcz14_4, hcz14_5, hcz14_6, hcz14_7, hcz14_8, hcz14_9⟩ := cz10 BK819.out; obtain ⟨hfz14_0, hfz14_1, hfz14_2, hfz14_3, hfz14_4, hfz14_5, hfz14_6, hfz14_7, hfz14_8, hfz14_9⟩ := fz10 BK819.out; obtain ⟨hcz15_0, hcz15_1, hcz15_2, hcz15_3, hcz15_4, hcz15_5, hcz15_6, hcz15_7, hcz15_8, hcz15_9⟩ := cz10 BK820.out; obtain ⟨hfz15_0, hfz15_1, hfz15_2, hfz15_3, hfz15_4, hfz15_5, hfz15_6, hfz15_7, hfz15_8, hfz15_9⟩ := fz10 BK820.out) | (go_at_call 42; (with_reducible refine (laws_sameMan.calls ?side1 ?side2 ?side3 ?side4 A5.out).mono ?_); (case side1 => exact Zq26_0); (case side2 => exact HC0_5.out); (case side3 => exact Zq26_1); (case side4 => exact HC1_5.out); rintro e w16 ⟨rfl, hb⟩; replace BK819 := mB BK819 hb; replace BK820 := mB BK820 hb; replace HB := bS HB hb; clear hb; obtain ⟨hcz17_0, hcz17_1, hcz17_2, hcz17_3, hcz17_4, hcz17_5, hcz17_6, hcz17_7, hcz17_8, hcz17_9⟩ := cz10 BK819.out; obtain ⟨hfz17_0, hfz17_1, hfz17_2, hfz17_3, hfz17_4, hfz17_5, hfz17_6, hfz17_7, hfz17_8, hfz17_9⟩ := fz10 BK819.out; obtain ⟨hcz18_0, hcz18_1, hcz18_2, hcz18_3, hcz18_4, hcz18_5, hcz18_6, hcz18_7, hcz18_8, hcz18_9⟩ := cz10 BK820.out; obtain ⟨hfz18_0, hfz18_1, hfz18_2, hfz18_3, hfz18_4, hfz18_5, hfz18_6, hfz18_7, hfz18_8, hfz18_9⟩ := fz10 BK820.out) | (go_at_call 10; (with_reducible refine (laws_same.calls ?side1 ?side2 ?side3 ?side4 A10.out).mono ?_); (case side1 => have X_ := (Kd.C_below HR0_9.out HB.out); exact TC); (case side2 => exact HC0_9.out); (case side3 => have X_ := (Kd.C_below HR1_9.out HB.out); exact TC); (case side4 => exact HC1_9.out); rintro e w' ⟨rfl, ⟨nd, rfl⟩⟩))
              go_ret
              exact ⟨TE, TB⟩
            · rw [if_neg c9] at H
              have c9b0 : (a0_8 == a1_8) = false := beq_eq_false_iff_ne.mpr c9
              have c9b1 : (a0_8 != a1_8) = true := bne_iff_ne.mpr c9
              obtain rfl := oI H
              go_enter Tryz.func13, Tryz.ntmps13
              go_wp2_with (first | ((with_reducible refine gate_dst (N := 2) rfl ?_); refine gBx 2 #[.int .i64 a0_0, .int .i64 a0_1, .int .i64 a0_2, .int .i64 a0_3, .int .i64 a0_4, .slice A0_5 l0_5.length c0_5, .int .i64 a0_6, .int .i64 a0_7, .int .i64 a0_8, .slice A0_9 l0_9.length c0_9] 28 ?_; intro gb819 hg w19 hbox hb; have BK819 := aM (hbox); have GW819 := gW HB hg; have GE819 := gW HB hg; replace HB := bS HB hb; clear hb hbox hg) | ((with_reducible refine gate_dst (N := 3) rfl ?_); refine gBx 3 #[.int .i64 a1_0, .int .i64 a1_1, .int .i64 a1_2, .int .i64 a1_3, .int .i64 a1_4, .slice A1_5 l1_5.length c1_5, .int .i64 a1_6, .int .i64 a1_7, .int .i64 a1_8, .slice A1_9 l1_9.length c1_9] 28 ?_; intro gb820 hg w20 hbox hb; have BK820 := aM (hbox); have GW820 := gW HB hg; have GE820 := gW HB hg; obtain ⟨NB819_820, NB820_819⟩ := nB BK819 hg; replace BK819 := mB BK819 hb; replace HB := bS HB hb; clear hb hbox hg; obtain ⟨hnb21, hnc21⟩ := oB NB819_820; obtain ⟨hcz22_0, hcz22_1, hcz22_2, hcz22_3, hcz22_4, hcz22_5, hcz22_6, hcz22_7, hcz22_8, hcz22_9⟩ := cz10 BK819.out; obtain ⟨hfz22_0, hfz22_1, hfz22_2, hfz22_3, hfz22_4, hfz22_5, hfz22_6, hfz22_7, hfz22_8, hfz22_9⟩ := fz10 BK819.out; obtain ⟨hcz23_0, hcz23_1, hcz23_2, hcz23_3, hcz23_4, hcz23_5, hcz23_6, hcz23_7, hcz23_8, hcz23_9⟩ := cz10 BK820.out; obtain ⟨hfz23_0, hfz23_1, hfz23_2, hfz23_3, hfz23_4, hfz23_5, hfz23_6, hfz23_7, hfz23_8, hfz23_9⟩ := fz10 BK820.out) | (go_at_call 42; (with_reducible refine (laws_sameMan.calls ?side1 ?side2 ?side3 ?side4 A5.out).mono ?_); (case side1 => exact Zq26_0); (case side2 => exact HC0_5.out); (case side3 => exact Zq26_1); (case side4 => exact HC1_5.out); rintro e w24 ⟨rfl, hb⟩; replace BK819 := mB BK819 hb; replace BK820 := mB BK820 hb; replace HB := bS HB hb; clear hb; obtain ⟨hcz25_0, hcz25_1, hcz25_2, hcz25_3, hcz25_4, hcz25_5, hcz25_6, hcz25_7, hcz25_8, hcz25_9⟩ := cz10 BK819.out; obtain ⟨hfz25_0, hfz25_1, hfz25_2, hfz25_3, hfz25_4, hfz25_5, hfz25_6, hfz25_7, hfz25_8, hfz25_9⟩ := fz10 BK819.out; obtain ⟨hcz26_0, hcz26_1, hcz26_2, hcz26_3, hcz26_4, hcz26_5, hcz26_6, hcz26_7, hcz26_8, hcz26_9⟩ := cz10 BK820.out; obtain ⟨hfz26_0, hfz26_1, hfz26_2, hfz26_3, hfz26_4, hfz26_5, hfz26_6, hfz26_7, hfz26_8, hfz26_9⟩ := fz10 BK820.out))
              go_ret
              exact ⟨TE, TB⟩
          · rw [if_neg c8] at H
            have c8b0 : (a0_7 == a1_7) = false := beq_eq_false_iff_ne.mpr c8
            have c8b1 : (a0_7 != a1_7) = true := bne_iff_ne.mpr c8
            obtain rfl := oI H
            go_enter Tryz.func13, Tryz.ntmps13
            go_wp2_with (first | ((with_reducible refine gate_dst (N := 2) rfl ?_); refine gBx 2 #[.int .i64 a0_0, .int .i64 a0_1, .int .i64 a0_2, .int .i64 a0_3, .int .i64 a0_4, .slice A0_5 l0_5.length c0_5, .int .i64 a0_6, .int .i64 a0_7, .int .i64 a0_8, .slice A0_9 l0_9.length c0_9] 28 ?_; intro gb819 hg w27 hbox hb; have BK819 := aM (hbox); have GW819 := gW HB hg; have GE819 := gW HB hg; replace HB := bS HB hb; clear hb hbox hg) | ((with_reducible refine gate_dst (N := 3) rfl ?_); refine gBx 3 #[.int .i64 a1_0, .int .i64 a1_1, .int .i64 a1_2, .int .i64 a1_3, .int .i64 a1_4, .slice A1_5 l1_5.length c1_5, .int .i64 a1_6, .int .i64 a1_7, .int .i64 a1_8, .slice A1_9 l1_9.length c1_9] 28 ?_; intro gb820 hg w28 hbox hb; have BK820 := aM (hbox); have GW820 := gW HB hg; have GE820 := gW HB hg; obtain ⟨NB819_820, NB820_819⟩ := nB BK819 hg; replace BK819 := mB BK819 hb; replace HB := bS HB hb; clear hb hbox hg; obtain ⟨hnb29, hnc29⟩ := oB NB819_820; obtain ⟨hcz30_0, hcz30_1, hcz30_2, hcz30_3, hcz30_4, hcz30_5, hcz30_6, hcz30_7, hcz30_8, hcz30_9⟩ := cz10 BK819.out; obtain ⟨hfz30_0, hfz30_1, hfz30_2, hfz30_3, hfz30_4, hfz30_5, hfz30_6, hfz30_7, hfz30_8, hfz30_9⟩ := fz10 BK819.out; obtain ⟨hcz31_0, hcz31_1, hcz31_2, hcz31_3, hcz31_4, hcz31_5, hcz31_6, hcz31_7, hcz31_8, hcz31_9⟩ := cz10 BK820.out; obtain ⟨hfz31_0, hfz31_1, hfz31_2, hfz31_3, hfz31_4, hfz31_5, hfz31_6, hfz31_7, hfz31_8, hfz31_9⟩ := fz10 BK820.out) | (go_at_call 42; (with_reducible refine (laws_sameMan.calls ?side1 ?side2 ?side3 ?side4 A5.out).mono ?_); (case side1 => exact Zq26_0); (case side2 => exact HC0_5.out); (case side3 => exact Zq26_1); (case side4 => exact HC1_5.out); rintro e w32 ⟨rfl, hb⟩; replace BK819 := mB BK819 hb; replace BK820 := mB BK820 hb; replace HB := bS HB hb; clear hb; obtain ⟨hcz33_0, hcz33_1, hcz33_2, hcz33_3, hcz33_4, hcz33_5, hcz33_6, hcz33_7, hcz33_8, hcz33_9⟩ := cz10 BK819.out; obtain ⟨hfz33_0, hfz33_1, hfz33_2, hfz33_3, hfz33_4, hfz33_5, hfz33_6, hfz33_7, hfz33_8, hfz33_9⟩ := fz10 BK819.out; obtain ⟨hcz34_0, hcz34_1, hcz34_2, hcz34_3, hcz34_4, hcz34_5, hcz34_6, hcz34_7, hcz34_8, hcz34_9⟩ := cz10 BK820.out; obtain ⟨hfz34_0, hfz34_1, hfz34_2, hfz34_3, hfz34_4, hfz34_5, hfz34_6, hfz34_7, hfz34_8, hfz34_9⟩ := fz10 BK820.out))
            go_ret
            exact ⟨TE, TB⟩
        · rw [if_neg c7] at H
          have c7b0 : (a0_6 == a1_6) = false := beq_eq_false_iff_ne.mpr c7
          have c7b1 : (a0_6 != a1_6) = true := bne_iff_ne.mpr c7
          obtain rfl := oI H
          go_enter Tryz.func13, Tryz.ntmps13
          go_wp2_with (first | ((with_reducible refine gate_dst (N := 2) rfl ?_); refine gBx 2 #[.int .i64 a0_0, .int .i64 a0_1, .int .i64 a0_2, .int .i64 a0_3, .int .i64 a0_4, .slice A0_5 l0_5.length c0_5, .int .i64 a0_6, .int .i64 a0_7, .int .i64 a0_8, .slice A0_9 l0_9.length c0_9] 28 ?_; intro gb819 hg w35 hbox hb; have BK819 := aM (hbox); have GW819 := gW HB hg; have GE819 := gW HB hg; replace HB := bS HB hb; clear hb hbox hg) | ((with_reducible refine gate_dst (N := 3) rfl ?_); refine gBx 3 #[.int .i64 a1_0, .int .i64 a1_1, .int .i64 a1_2, .int .i64 a1_3, .int .i64 a1_4, .slice A1_5 l1_5.length c1_5, .int .i64 a1_6, .int .i64 a1_7, .int .i64 a1_8, .slice A1_9 l1_9.length c1_9] 28 ?_; intro gb820 hg w36 hbox hb; have BK820 := aM (hbox); have GW820 := gW HB hg; have GE820 := gW HB hg; obtain ⟨NB819_820, NB820_819⟩ := nB BK819 hg; replace BK819 := mB BK819 hb; replace HB := bS HB hb; clear hb hbox hg; obtain ⟨hnb37, hnc37⟩ := oB NB819_820; obtain ⟨hcz38_0, hcz38_1, hcz38_2, hcz38_3, hcz38_4, hcz38_5, hcz38_6, hcz38_7, hcz38_8, hcz38_9⟩ := cz10 BK819.out; obtain ⟨hfz38_0, hfz38_1, hfz38_2, hfz38_3, hfz38_4, hfz38_5, hfz38_6, hfz38_7, hfz38_8, hfz38_9⟩ := fz10 BK819.out; obtain ⟨hcz39_0, hcz39_1, hcz39_2, hcz39_3, hcz39_4, hcz39_5, hcz39_6, hcz39_7, hcz39_8, hcz39_9⟩ := cz10 BK820.out; obtain ⟨hfz39_0, hfz39_1, hfz39_2, hfz39_3, hfz39_4, hfz39_5, hfz39_6, hfz39_7, hfz39_8, hfz39_9⟩ := fz10 BK820.out) | (go_at_call 42; (with_reducible refine (laws_sameMan.calls ?side1 ?side2 ?side3 ?side4 A5.out).mono ?_); (case side1 => exact Zq26_0); (case side2 => exact HC0_5.out); (case side3 => exact Zq26_1); (case side4 => exact HC1_5.out); rintro e w40 ⟨rfl, hb⟩; replace BK819 := mB BK819 hb; replace BK820 := mB BK820 hb; replace HB := bS HB hb; clear hb; obtain ⟨hcz41_0, hcz41_1, hcz41_2, hcz41_3, hcz41_4, hcz41_5, hcz41_6, hcz41_7, hcz41_8, hcz41_9⟩ := cz10 BK819.out; obtain ⟨hfz41_0, hfz41_1, hfz41_2, hfz41_3, hfz41_4, hfz41_5, hfz41_6, hfz41_7, hfz41_8, hfz41_9⟩ := fz10 BK819.out; obtain ⟨hcz42_0, hcz42_1, hcz42_2, hcz42_3, hcz42_4, hcz42_5, hcz42_6, hcz42_7, hcz42_8, hcz42_9⟩ := cz10 BK820.out; obtain ⟨hfz42_0, hfz42_1, hfz42_2, hfz42_3, hfz42_4, hfz42_5, hfz42_6, hfz42_7, hfz42_8, hfz42_9⟩ := fz10 BK820.out))
          go_ret
          exact ⟨TE, TB⟩
      · replace c6 := bF c6
        subst c6
        replace H := ifF H
        obtain rfl := oI H
        go_enter Tryz.func13, Tryz.ntmps13
        go_wp2_with (first | ((with_reducible refine gate_dst (N := 2) rfl ?_); refine gBx 2 #[.int .i64 a0_0, .int .i64 a0_1, .int .i64 a0_2, .int .i64 a0_3, .int .i64 a0_4, .slice A0_5 l0_5.length c0_5, .int .i64 a0_6, .int .i64 a0_7, .int .i64 a0_8, .slice A0_9 l0_9.length c0_9] 28 ?_; intro gb819 hg w43 hbox hb; have BK819 := aM (hbox); have GW819 := gW HB hg; have GE819 := gW HB hg; replace HB := bS HB hb; clear hb hbox hg) | ((with_reducible refine gate_dst (N := 3) rfl ?_); refine gBx 3 #[.int .i64 a1_0, .int .i64 a1_1, .int .i64 a1_2, .int .i64 a1_3, .int .i64 a1_4, .slice A1_5 l1_5.length c1_5, .int .i64 a1_6, .int .i64 a1_7, .int .i64 a1_8, .slice A1_9 l1_9.length c1_9] 28 ?_; intro gb820 hg w44 hbox hb; have BK820 := aM (hbox); have GW820 := gW HB hg; have GE820 := gW HB hg; obtain ⟨NB819_820, NB820_819⟩ := nB BK819 hg; replace BK819 := mB BK819 hb; replace HB := bS HB hb; clear hb hbox hg; obtain ⟨hnb45, hnc45⟩ := oB NB819_820; obtain ⟨hcz46_0, hcz46_1, hcz46_2, hcz46_3, hcz46_4, hcz46_5, hcz46_6, hcz46_7, hcz46_8, hcz46_9⟩ := cz10 BK819.out; obtain ⟨hfz46_0, hfz46_1, hfz46_2, hfz46_3, hfz46_4, hfz46_5, hfz46_6, hfz46_7, hfz46_8, hfz46_9⟩ := fz10 BK819.out; obtain ⟨hcz47_0, hcz47_1, hcz47_2, hcz47_3, hcz47_4, hcz47_5, hcz47_6, hcz47_7, hcz47_8, hcz47_9⟩ := cz10 BK820.out; obtain ⟨hfz47_0, hfz47_1, hfz47_2, hfz47_3, hfz47_4, hfz47_5, hfz47_6, hfz47_7, hfz47_8, hfz47_9⟩ := fz10 BK820.out) | (go_at_call 42; (with_reducible refine (laws_sameMan.calls ?side1 ?side2 ?side3 ?side4 A5.out).mono ?_); (case side1 => exact Zq26_0); (case side2 => exact HC0_5.out); (case side3 => exact Zq26_1); (case side4 => exact HC1_5.out); rintro e w48 ⟨rfl, hb⟩; replace BK819 := mB BK819 hb; replace BK820 := mB BK820 hb; replace HB := bS HB hb; clear hb))
        go_ret
        exact ⟨TE, TB⟩
    · rw [if_neg c4] at H
      have c4b0 : (a0_1 == a1_1) = false := beq_eq_false_iff_ne.mpr c4
      have c4b1 : (a0_1 != a1_1) = true := bne_iff_ne.mpr c4
      obtain rfl := oI H
      go_enter Tryz.func13, Tryz.ntmps13
      go_wp2_with (first | ((with_reducible refine gate_dst (N := 2) rfl ?_); refine gBx 2 #[.int .i64 a0_0, .int .i64 a0_1, .int .i64 a0_2, .int .i64 a0_3, .int .i64 a0_4, .slice A0_5 l0_5.length c0_5, .int .i64 a0_6, .int .i64 a0_7, .int .i64 a0_8, .slice A0_9 l0_9.length c0_9] 28 ?_; intro gb819 hg w49 hbox hb; have BK819 := aM (hbox); have GW819 := gW HB hg; have GE819 := gW HB hg; replace HB := bS HB hb; clear hb hbox hg) | ((with_reducible refine gate_dst (N := 3) rfl ?_); refine gBx 3 #[.int .i64 a1_0, .int .i64 a1_1, .int .i64 a1_2, .int .i64 a1_3, .int .i64 a1_4, .slice A1_5 l1_5.length c1_5, .int .i64 a1_6, .int .i64 a1_7, .int .i64 a1_8, .slice A1_9 l1_9.length c1_9] 28 ?_; intro gb820 hg w50 hbox hb; have BK820 := aM (hbox); have GW820 := gW HB hg; have GE820 := gW HB hg; obtain ⟨NB819_820, NB820_819⟩ := nB BK819 hg; replace BK819 := mB BK819 hb; replace HB := bS HB hb; clear hb hbox hg; obtain ⟨hnb51, hnc51⟩ := oB NB819_820; obtain ⟨hcz52_0, hcz52_1, hcz52_2, hcz52_3, hcz52_4, hcz52_5, hcz52_6, hcz52_7, hcz52_8, hcz52_9⟩ := cz10 BK819.out; obtain ⟨hfz52_0, hfz52_1, hfz52_2, hfz52_3, hfz52_4, hfz52_5, hfz52_6, hfz52_7, hfz52_8, hfz52_9⟩ := fz10 BK819.out; obtain ⟨hcz53_0, hcz53_1, hcz53_2, hcz53_3, hcz53_4, hcz53_5, hcz53_6, hcz53_7, hcz53_8, hcz53_9⟩ := cz10 BK820.out; obtain ⟨hfz53_0, hfz53_1, hfz53_2, hfz53_3, hfz53_4, hfz53_5, hfz53_6, hfz53_7, hfz53_8, hfz53_9⟩ := fz10 BK820.out))
      go_ret
      exact ⟨TE, TB⟩
  · rw [if_neg c3] at H
    have c3b0 : (a0_0 == a1_0) = false := beq_eq_false_iff_ne.mpr c3
    have c3b1 : (a0_0 != a1_0) = true := bne_iff_ne.mpr c3
    obtain rfl := oI H
    go_enter Tryz.func13, Tryz.ntmps13
    go_wp2_with (first | ((with_reducible refine gate_dst (N := 2) rfl ?_); refine gBx 2 #[.int .i64 a0_0, .int .i64 a0_1, .int .i64 a0_2, .int .i64 a0_3, .int .i64 a0_4, .slice A0_5 l0_5.length c0_5, .int .i64 a0_6, .int .i64 a0_7, .int .i64 a0_8, .slice A0_9 l0_9.length c0_9] 28 ?_; intro gb819 hg w54 hbox hb; have BK819 := aM (hbox); have GW819 := gW HB hg; have GE819 := gW HB hg; replace HB := bS HB hb; clear hb hbox hg) | ((with_reducible refine gate_dst (N := 3) rfl ?_); refine gBx 3 #[.int .i64 a1_0, .int .i64 a1_1, .int .i64 a1_2, .int .i64 a1_3, .int .i64 a1_4, .slice A1_5 l1_5.length c1_5, .int .i64 a1_6, .int .i64 a1_7, .int .i64 a1_8, .slice A1_9 l1_9.length c1_9] 28 ?_; intro gb820 hg w55 hbox hb; have BK820 := aM (hbox); have GW820 := gW HB hg; have GE820 := gW HB hg; obtain ⟨NB819_820, NB820_819⟩ := nB BK819 hg; replace BK819 := mB BK819 hb; replace HB := bS HB hb; clear hb hbox hg; obtain ⟨hnb56, hnc56⟩ := oB NB819_820; obtain ⟨hcz57_0, hcz57_1, hcz57_2, hcz57_3, hcz57_4, hcz57_5, hcz57_6, hcz57_7, hcz57_8, hcz57_9⟩ := cz10 BK819.out; obtain ⟨hfz57_0, hfz57_1, hfz57_2, hfz57_3, hfz57_4, hfz57_5, hfz57_6, hfz57_7, hfz57_8, hfz57_9⟩ := fz10 BK819.out; obtain ⟨hcz58_0, hcz58_1, hcz58_2, hcz58_3, hcz58_4, hcz58_5, hcz58_6, hcz58_7, hcz58_8, hcz58_9⟩ := cz10 BK820.out; obtain ⟨hfz58_0, hfz58_1, hfz58_2, hfz58_3, hfz58_4, hfz58_5, hfz58_6, hfz58_7, hfz58_8, hfz58_9⟩ := fz10 BK820.out))
    go_ret
    exact ⟨TE, TB⟩
-- NOT PRINTED: function 101 (strconv_small)
-- NOT PRINTED: function 106 (strconv_log10Pow2)
-- NOT PRINTED: function 107 (bits_Len64)
-- NOT PRINTED: function 108 (strconv_bool2_int)
-- NOT PRINTED: function 102 (strconv_numDigits)
-- NOT PRINTED: function 103 (strconv_formatBase10)
-- NOT PRINTED: function 109 (strconv_isPowerOfTwo)
-- NOT PRINTED: function 111 (bits_TrailingZeros32)
-- NOT PRINTED: function 112 (bits_TrailingZeros64)
-- NOT PRINTED: function 110 (bits_TrailingZeros)
-- NOT PRINTED: function 104 (strconv_formatBits)
-- NOT PRINTED: function 99 (strconv_FormatInt)
-- NOT PRINTED: function 94 (strconv_Itoa_94)
/-- The library's table of powers of ten stands as the program's text lays it. -/
def TabOk (w : World) : Prop := Go.Lib.TabIs Tryz.prog w "internal/strconv.uint64pow10" .u64 Go.Lib.pow10Tab
theorem tabAt : ∃ g, Tryz.prog.globalNamed "internal/strconv.uint64pow10" = some g := by first | exact ⟨0, by kernel_rfl⟩ | exact ⟨1, by kernel_rfl⟩ | exact ⟨2, by kernel_rfl⟩ | exact ⟨3, by kernel_rfl⟩ | exact ⟨4, by kernel_rfl⟩ | exact ⟨5, by kernel_rfl⟩ | exact ⟨6, by kernel_rfl⟩ | exact ⟨7, by kernel_rfl⟩
theorem TabOk.below {w w' : World} (h : TabOk w) (hb : Below w.heap.size w w') : TabOk w' := by
  obtain ⟨g, hg⟩ := tabAt;exact Go.Joins.tab_stays hg h hb (Nat.le_refl _)
def strconv_Itoa_82.f (a0 : Int) : Option (ByteArray) := if -9223372036854775808 ≤ a0 ∧ a0 ≤ 9223372036854775807 then some ⟨(Go.Lib.itoa a0).toArray⟩ else none
theorem strconv_Itoa_82.calls {a0 : Int} {r : ByteArray} {w : World} (h : strconv_Itoa_82.f a0 = some r) (hT : TabOk w) :
    Calls Tryz.prog 82 #[.int .i64 a0] w fun e w' => e = .returned (.string r) ∧ Below w.heap.size w w' := by
  unfold strconv_Itoa_82.f at h
  split at h
  · rename_i q
    obtain rfl := Option.some.inj h
    refine (Go.Proofs.Tryz.strconv_Itoa a0 q.1 q.2 w hT).mono ?_
    rintro e w' ⟨rfl, k, os, rfl⟩
    exact ⟨rfl, Go.Lib.below_grow w.heap.size w (Nat.le_refl _) k os⟩
  · cases h
def impl_NumText.f (a0 : Int) : Option (ByteArray) := (strconv_Itoa_82.f a0).bind fun t823 => (some t823)
theorem impl_NumText.calls {a0 : Int} {r : ByteArray} {w : World} (h : impl_NumText.f a0 = some r) (hT : TabOk w) :
  Calls Tryz.prog 53 #[.int .i64 a0] w fun e w' => e = .returned (.string r) ∧ Below w.heap.size w w' := by
 have HT := aM hT;clear hT;have HB := aM (Below.refl w.heap.size w);have H := h;clear h;unfold impl_NumText.f at H;replace H := bE H;obtain ⟨t823, Aq1, H⟩ := H;obtain rfl := oI H;go_enter Tryz.func53, Tryz.ntmps53;go_wp2_with (first | ((with_reducible refine gate_callee (f := 82) rfl ?_); refine gL (some 4) Tryz.func82 #[.int .i64 a0] ?_; (with_reducible refine (strconv_Itoa_82.calls Aq1.out (HT.out.below TB)).mono ?_); rintro e wq1 ⟨rfl, hb⟩; refine ⟨_, rfl, ?_⟩; replace HB := bS HB hb; clear hb))
 go_ret
 exact ⟨TE, TB⟩
end Go.Proofs.YtanpaipapcjpoaaGreatDoor.Q
