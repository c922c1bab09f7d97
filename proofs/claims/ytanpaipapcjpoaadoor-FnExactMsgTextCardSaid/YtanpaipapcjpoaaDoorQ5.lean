/- Functions of the program as plain Lean functions, and that a call of each comes to what its function tells. Written by a program of this seat. -/
import Derived.Test.YtanpaipapcjpoaaDoorQ0
import Derived.Test.YtanpaipapcjpoaaDoorQ2
import Derived.Test.YtanpaipapcjpoaaDoorQ4
namespace Go.Proofs.YtanpaipapcjpoaaDoor.Q
open Go.RowKit Go.Proofs.YtanpaipapcjpoaaDoorW.PrintWords Go.Proofs.YtanpaipapcjpoaaDoorW.PrintLast Go.Proofs.YtanpaipapcjpoaaDoorW.PrintMore
attribute [local go_sem] max2_int min2_int max_two min_two max_three min_three max_four min_four   -- for this text's walks alone
set_option linter.unusedVariables false
set_option linter.unusedSimpArgs false

/-! ### spec_SetOk: function 25 -/
def spec_SetOk.f (a0 : Int) : Option (Bool) := (spec_l1In.f a0 0 1099511627775).bind fun t154 => (some t154)
set_option maxHeartbeats 40000000 in
set_option maxRecDepth 100000 in
theorem spec_SetOk.calls (a0 : Int) (r : Bool) (w : World) (h : spec_SetOk.f a0 = some r) :
    Calls Tryd.prog 25 #[.int .i64 a0] w fun e w' => e = .returned (.bool r) ∧ Drawn0 w w' := by
  have H := h
  clear h
  unfold spec_SetOk.f at H
  replace H := bE H
  obtain ⟨t154, A2, H⟩ := H
  obtain rfl := Option.some.inj H
  go_enter Tryd.func25, Tryd.ntmps25
  go_wp2_with (first | ((with_reducible refine gate_callee (f := 24) rfl ?_); refine gL (some 4) Tryd.func24 #[.int .i64 a0, .int .i64 0, .int .i64 1099511627775] ?_; (with_reducible refine (spec_l1In.calls a0 0 1099511627775 t154 _ A2.out).mono ?_); rintro e w' ⟨rfl, ⟨nd, rfl⟩⟩; refine ⟨_, rfl, ?_⟩))
  go_ret
  exact ⟨by first | rfl | (simp; done) | (simp [*]; done), TD⟩

/-! ### spec_MsgOk: function 11 -/
def spec_MsgOk.j0 : Nat → Bool → Bool → Int → Int → Int → Int → Int → List (S61) → Int → Int → Int → List Int → Option (Bool)
  | 0, _, _, _, _, _, _, _, _, _, _, _, _ => none
  | k + 1, x3, x4, x156000, x156001, x156002, x156003, x156004, x156005, x156006, x156007, x156008, x156009 => if x156000 = 1 then (if x156001 = 0 then (if x156002 = 0 then (some false) else ((spec_ManOk.f k x156002 x156003 x156004 x156005).bind fun t157 => (if t157 = true then (some x4) else (some false)))) else (some false)) else (if x156000 = 2 then ((spec_l1In.f x156001 0 1000000).bind fun t158 => (if t158 = true then (if x3 = true then ((spec_SetOk.f x156006).bind fun t159 => (if t159 = true then ((spec_SetOk.f x156007).bind fun t160 => (if t160 = true then (if x156008 = 0 then (some ((x156009.length : Int) == 0)) else (some false)) else (some false))) else (some false))) else (some false)) else (some false))) else (if x156000 = 3 then ((spec_l1In.f x156001 1 1000000).bind fun t161 => (if t161 = true then (if x3 = true then (if x156006 = 0 then (if x156007 = 0 then ((spec_l1In.f x156008 0 39).bind fun t162 => (if t162 = true then ((spec_l1In.f (x156009.length : Int) 1 6).bind fun t163 => (some t163)) else (some false))) else (some false)) else (some false)) else (some false)) else (some false))) else (if x156000 = 4 then ((spec_l1In.f x156001 0 1000000).bind fun t164 => (if t164 = true then (if x3 = true then (some x4) else (some false)) else (some false))) else (some false))))
def spec_MsgOk.f (k : Nat) (a0_0 : Int) (a0_1 : Int) (a0_2 : Int) (a0_3 : Int) (a0_4 : Int) (l0_5 : List (S61)) (a0_6 : Int) (a0_7 : Int) (a0_8 : Int) (l0_9 : List Int) : Option (Bool) := (spec_SameMan.f k a0_2 a0_3 a0_4 l0_5 0 0 0 ([] : List (S61))).bind fun t156 => (if a0_6 = 0 then (if a0_7 = 0 then (if a0_8 = 0 then (spec_MsgOk.j0 k t156 ((l0_9.length : Int) == 0) a0_0 a0_1 a0_2 a0_3 a0_4 l0_5 a0_6 a0_7 a0_8 l0_9) else (spec_MsgOk.j0 k t156 false a0_0 a0_1 a0_2 a0_3 a0_4 l0_5 a0_6 a0_7 a0_8 l0_9)) else (spec_MsgOk.j0 k t156 false a0_0 a0_1 a0_2 a0_3 a0_4 l0_5 a0_6 a0_7 a0_8 l0_9)) else (spec_MsgOk.j0 k t156 false a0_0 a0_1 a0_2 a0_3 a0_4 l0_5 a0_6 a0_7 a0_8 l0_9))
theorem spec_MsgOk.mono_l : ∀ k, (∀ y0 y1 y2 y3 y4 y5 y6 y7 y8 y9 y10 y11, LeO (spec_MsgOk.j0 k y0 y1 y2 y3 y4 y5 y6 y7 y8 y9 y10 y11) (spec_MsgOk.j0 (k + 1) y0 y1 y2 y3 y4 y5 y6 y7 y8 y9 y10 y11))
  | 0 => fun _ _ _ _ _ _ _ _ _ _ _ _ r h => by simp [spec_MsgOk.j0] at h
  | k + 1 => by
    have m0_ := @spec_ManOk.mono
    have m1_ := @spec_SameMan.mono
    have ih0 := spec_MsgOk.mono_l k
    · intro y0 y1 y2 y3 y4 y5 y6 y7 y8 y9 y10 y11
      unfold spec_MsgOk.j0
      exact LM
theorem spec_MsgOk.mono : ∀ a0 a1 a2 a3 a4 a5 a6 a7 a8 a9 k, LeO (spec_MsgOk.f k a0 a1 a2 a3 a4 a5 a6 a7 a8 a9) (spec_MsgOk.f (k + 1) a0 a1 a2 a3 a4 a5 a6 a7 a8 a9) := by
  intro a0 a1 a2 a3 a4 a5 a6 a7 a8 a9 k
  have m0_ := @spec_ManOk.mono
  have m1_ := @spec_SameMan.mono
  have ih0 := spec_MsgOk.mono_l k
  unfold spec_MsgOk.f
  exact LM
set_option maxHeartbeats 40000000 in
set_option maxRecDepth 100000 in
theorem spec_MsgOk.calls (k : Nat) (a0_0 : Int) (a0_1 : Int) (a0_2 : Int) (a0_3 : Int) (a0_4 : Int) (A0_5 : Option Addr) (c0_5 : Nat) (l0_5 : List (S61)) (a0_6 : Int) (a0_7 : Int) (a0_8 : Int) (A0_9 : Option Addr) (c0_9 : Nat) (l0_9 : List Int) (r : Bool) (w : World) (hr0_5 : Kd.C k61 w A0_5 l0_5.length l0_5) (hc0_5 : l0_5.length ≤ c0_5) (hr0_9 : Kd.C (Kd.int .u8) w A0_9 l0_9.length l0_9) (hc0_9 : l0_9.length ≤ c0_9) (h : spec_MsgOk.f k a0_0 a0_1 a0_2 a0_3 a0_4 l0_5 a0_6 a0_7 a0_8 l0_9 = some r) :
    Calls Tryd.prog 11 #[.agg #[.int .i64 a0_0, .int .i64 a0_1, .int .i64 a0_2, .int .i64 a0_3, .int .i64 a0_4, .slice A0_5 l0_5.length c0_5, .int .i64 a0_6, .int .i64 a0_7, .int .i64 a0_8, .slice A0_9 l0_9.length c0_9]] w fun e w' => e = .returned (.bool r) ∧ Below w.heap.size w w' := by
  have hu34 := Tryd.underlying34
  have hu32 := Tryd.underlying32
  have HR0_5 := aM hr0_5
  have HC0_5 := aM hc0_5
  clear hr0_5 hc0_5
  have HR0_9 := aM hr0_9
  have HC0_9 := aM hc0_9
  clear hr0_9 hc0_9
  have HB := aM (Below.refl w.heap.size w)
  have H := h
  clear h
  unfold spec_MsgOk.f at H
  replace H := bE H
  obtain ⟨t156, A2, H⟩ := H
  have HC3 := aM H
  clear H
  go_enter Tryd.func11, Tryd.ntmps11
  go_upto_region 2 with (first | ((with_reducible refine gate_dst (N := 1) rfl ?_); (try (refine gate_guard (by rfl) ?_; dsimp only)); refine gBx 1 #[.int .i64 a0_0, .int .i64 a0_1, .int .i64 a0_2, .int .i64 a0_3, .int .i64 a0_4, .slice A0_5 l0_5.length c0_5, .int .i64 a0_6, .int .i64 a0_7, .int .i64 a0_8, .slice A0_9 l0_9.length c0_9] 34 ?_; intro gb155 hg w4 hbox hb; have BK155 := aM (hbox); have GW155 := aM ((by rw [hg]; exact (below_size TB) : w.heap.size ≤ gb155)); have GE155 := aM ((by rw [hg]; exact (below_size TB) : w.heap.size ≤ gb155)); replace HB := aM (below_step TB hb); clear hb hbox hg; obtain ⟨hcz5_0, hcz5_1, hcz5_2, hcz5_3, hcz5_4, hcz5_5, hcz5_6, hcz5_7, hcz5_8, hcz5_9⟩ := cz10 BK155.out; obtain ⟨hfz5_0, hfz5_1, hfz5_2, hfz5_3, hfz5_4, hfz5_5, hfz5_6, hfz5_7, hfz5_8, hfz5_9⟩ := fz10 BK155.out) | ((with_reducible refine gate_callee (f := 22) rfl ?_); refine gL (some 8) Tryd.func22 #[.agg #[.int .i64 a0_2, .int .i64 a0_3, .int .i64 a0_4, .slice A0_5 l0_5.length c0_5], .agg #[.int .i64 0, .int .i64 0, .int .i64 0, .slice none 0 0]] ?_; (refine (spec_SameMan.calls k a0_2 a0_3 a0_4 _ _ l0_5 0 0 0 _ _ ([] : List (S61)) t156 _ ?side1 ?side2 ?side3 ?side4 A2.out).mono ?_); (case side1 => have X_ := (Kd.C_below HR0_5.out HB.out); exact TC); (case side2 => exact HC0_5.out); (case side3 => exact Kd.C_nil _ _); (case side4 => exact Nat.le_refl _); rintro e w6 ⟨rfl, hb⟩; refine ⟨_, rfl, ?_⟩; replace BK155 := aM (blk_below (by have X_ := BK155.out; exact TX) hb); replace HB := aM (below_step TB hb); clear hb))
  (try simp only [Act.put, List.setIfInBounds_toArray, List.set_cons_zero, List.set_cons_succ])
  go_cut [4] (fun v4 wc => ∃ (kq : Nat) (x4_2 : Bool), v4 = .bool x4_2 ∧ Aside0 (spec_MsgOk.j0 kq t156 x4_2 a0_0 a0_1 a0_2 a0_3 a0_4 l0_5 a0_6 a0_7 a0_8 l0_9 = some r) ∧ Aside0 (kq ≤ k) ∧ Aside0 (wc.heap[gb155]? = some (.cells #[.int .i64 a0_0, .int .i64 a0_1, .int .i64 a0_2, .int .i64 a0_3, .int .i64 a0_4, (.slice A0_5 l0_5.length c0_5), .int .i64 a0_6, .int .i64 a0_7, .int .i64 a0_8, (.slice A0_9 l0_9.length c0_9)] 34 (0, 0))) ∧ Aside0 (Below w.heap.size w wc))
  case first =>
    have H := HC3.out
    clear HC3
    by_cases c7 : a0_6 = 0
    · rw [if_pos c7] at H
      have c7b0 : (a0_6 == 0) = true := beq_iff_eq.mpr c7
      have c7b1 : (a0_6 != 0) = false := bne_eq_false_iff_eq.mpr c7
      clear c7
      (first | rw [c7b0] | (simp only [i64_w, i32_w]; rw [c7b0]) | skip)
      by_cases c8 : a0_7 = 0
      · rw [if_pos c8] at H
        have c8b0 : (a0_7 == 0) = true := beq_iff_eq.mpr c8
        have c8b1 : (a0_7 != 0) = false := bne_eq_false_iff_eq.mpr c8
        clear c8
        by_cases c9 : a0_8 = 0
        · rw [if_pos c9] at H
          have c9b0 : (a0_8 == 0) = true := beq_iff_eq.mpr c9
          have c9b1 : (a0_8 != 0) = false := bne_eq_false_iff_eq.mpr c9
          clear c9
          have H' := aM H
          clear H
          obtain ⟨hcz10_0, hcz10_1, hcz10_2, hcz10_3, hcz10_4, hcz10_5, hcz10_6, hcz10_7, hcz10_8, hcz10_9⟩ := cz10 BK155.out
          obtain ⟨hfz10_0, hfz10_1, hfz10_2, hfz10_3, hfz10_4, hfz10_5, hfz10_6, hfz10_7, hfz10_8, hfz10_9⟩ := fz10 BK155.out
          go_wp2
          go_meet
          case rel => exact ⟨_, (((l0_9.length : Int) == 0)), (by first | rfl | (simp; done) | (simp [*]; done)), H', ⟨by first | omega | exact Nat.le_refl _⟩, ⟨TK⟩, ⟨TB⟩⟩
        · rw [if_neg c9] at H
          have c9b0 : (a0_8 == 0) = false := beq_eq_false_iff_ne.mpr c9
          have c9b1 : (a0_8 != 0) = true := bne_iff_ne.mpr c9
          have H' := aM H
          clear H
          obtain ⟨hcz11_0, hcz11_1, hcz11_2, hcz11_3, hcz11_4, hcz11_5, hcz11_6, hcz11_7, hcz11_8, hcz11_9⟩ := cz10 BK155.out
          obtain ⟨hfz11_0, hfz11_1, hfz11_2, hfz11_3, hfz11_4, hfz11_5, hfz11_6, hfz11_7, hfz11_8, hfz11_9⟩ := fz10 BK155.out
          go_wp2
          go_meet
          case rel => exact ⟨_, (false), (by first | rfl | (simp; done) | (simp [*]; done)), H', ⟨by first | omega | exact Nat.le_refl _⟩, ⟨TK⟩, ⟨TB⟩⟩
      · rw [if_neg c8] at H
        have c8b0 : (a0_7 == 0) = false := beq_eq_false_iff_ne.mpr c8
        have c8b1 : (a0_7 != 0) = true := bne_iff_ne.mpr c8
        have H' := aM H
        clear H
        obtain ⟨hcz12_0, hcz12_1, hcz12_2, hcz12_3, hcz12_4, hcz12_5, hcz12_6, hcz12_7, hcz12_8, hcz12_9⟩ := cz10 BK155.out
        obtain ⟨hfz12_0, hfz12_1, hfz12_2, hfz12_3, hfz12_4, hfz12_5, hfz12_6, hfz12_7, hfz12_8, hfz12_9⟩ := fz10 BK155.out
        go_wp2
        go_meet
        case rel => exact ⟨_, (false), (by first | rfl | (simp; done) | (simp [*]; done)), H', ⟨by first | omega | exact Nat.le_refl _⟩, ⟨TK⟩, ⟨TB⟩⟩
    · rw [if_neg c7] at H
      have c7b0 : (a0_6 == 0) = false := beq_eq_false_iff_ne.mpr c7
      have c7b1 : (a0_6 != 0) = true := bne_iff_ne.mpr c7
      (first | rw [c7b0] | (simp only [i64_w, i32_w]; rw [c7b0]) | skip)
      have H' := aM H
      clear H
      obtain ⟨hcz13_0, hcz13_1, hcz13_2, hcz13_3, hcz13_4, hcz13_5, hcz13_6, hcz13_7, hcz13_8, hcz13_9⟩ := cz10 BK155.out
      obtain ⟨hfz13_0, hfz13_1, hfz13_2, hfz13_3, hfz13_4, hfz13_5, hfz13_6, hfz13_7, hfz13_8, hfz13_9⟩ := fz10 BK155.out
      go_wp2
      go_meet
      case rel => exact ⟨_, (false), (by first | rfl | (simp; done) | (simp [*]; done)), H', ⟨by first | omega | exact Nat.le_refl _⟩, ⟨TK⟩, ⟨TB⟩⟩
  case rest =>
    clear HC3
    try clear c1
    try clear c2
    try clear p2
    try clear c7
    try clear c7b0
    try clear c7b1
    try clear c8
    try clear c8b0
    try clear c8b1
    try clear c9
    try clear c9b0
    try clear c9b1
    try clear c11
    try clear hcz10_0
    try clear hcz10_1
    try clear hcz10_2
    try clear hcz10_3
    try clear hcz10_4
    try clear hcz10_5
    try clear hcz10_6
    try clear hcz10_7
    try clear hcz10_8
    try clear hcz10_9
    try clear hcz11_0
    try clear hcz11_1
    try clear hcz11_2
    try clear hcz11_3
    try clear hcz11_4
    try clear hcz11_5
    try clear hcz11_6
    try clear hcz11_7
    try clear hcz11_8
    try clear hcz11_9
    try clear hcz12_0
    try clear hcz12_1
    try clear hcz12_2
    try clear hcz12_3
    try clear hcz12_4
    try clear hcz12_5
    try clear hcz12_6
    try clear hcz12_7
    try clear hcz12_8
    try clear hcz12_9
    try clear hcz13_0
    try clear hcz13_1
    try clear hcz13_2
    try clear hcz13_3
    try clear hcz13_4
    try clear hcz13_5
    try clear hcz13_6
    try clear hcz13_7
    try clear hcz13_8
    try clear hcz13_9
    try clear hcz5_0
    try clear hcz5_1
    try clear hcz5_2
    try clear hcz5_3
    try clear hcz5_4
    try clear hcz5_5
    try clear hcz5_6
    try clear hcz5_7
    try clear hcz5_8
    try clear hcz5_9
    try clear hfz10_0
    try clear hfz10_1
    try clear hfz10_2
    try clear hfz10_3
    try clear hfz10_4
    try clear hfz10_5
    try clear hfz10_6
    try clear hfz10_7
    try clear hfz10_8
    try clear hfz10_9
    try clear hfz11_0
    try clear hfz11_1
    try clear hfz11_2
    try clear hfz11_3
    try clear hfz11_4
    try clear hfz11_5
    try clear hfz11_6
    try clear hfz11_7
    try clear hfz11_8
    try clear hfz11_9
    try clear hfz12_0
    try clear hfz12_1
    try clear hfz12_2
    try clear hfz12_3
    try clear hfz12_4
    try clear hfz12_5
    try clear hfz12_6
    try clear hfz12_7
    try clear hfz12_8
    try clear hfz12_9
    try clear hfz13_0
    try clear hfz13_1
    try clear hfz13_2
    try clear hfz13_3
    try clear hfz13_4
    try clear hfz13_5
    try clear hfz13_6
    try clear hfz13_7
    try clear hfz13_8
    try clear hfz13_9
    try clear hfz5_0
    try clear hfz5_1
    try clear hfz5_2
    try clear hfz5_3
    try clear hfz5_4
    try clear hfz5_5
    try clear hfz5_6
    try clear hfz5_7
    try clear hfz5_8
    try clear hfz5_9
    obtain ⟨kq, x4_2, rfl, HA, HJ2, BK155, HB⟩ := hcut
    cases kq with
    | zero => exact absurd HA.out (by simp [spec_MsgOk.j0])
    | succ kj2 =>
      have H := HA.out
      clear HA
      simp only [spec_MsgOk.j0] at H
      by_cases c14 : a0_0 = 1
      · rw [if_pos c14] at H
        have c14b0 : (a0_0 == 1) = true := beq_iff_eq.mpr c14
        have c14b1 : (a0_0 != 1) = false := bne_eq_false_iff_eq.mpr c14
        clear c14
        by_cases c15 : a0_1 = 0
        · rw [if_pos c15] at H
          have c15b0 : (a0_1 == 0) = true := beq_iff_eq.mpr c15
          have c15b1 : (a0_1 != 0) = false := bne_eq_false_iff_eq.mpr c15
          clear c15
          by_cases c16 : a0_2 = 0
          · rw [if_pos c16] at H
            have c16b0 : (a0_2 == 0) = true := beq_iff_eq.mpr c16
            have c16b1 : (a0_2 != 0) = false := bne_eq_false_iff_eq.mpr c16
            clear c16
            obtain rfl := Option.some.inj H
            obtain ⟨hcz17_0, hcz17_1, hcz17_2, hcz17_3, hcz17_4, hcz17_5, hcz17_6, hcz17_7, hcz17_8, hcz17_9⟩ := cz10 BK155.out
            obtain ⟨hfz17_0, hfz17_1, hfz17_2, hfz17_3, hfz17_4, hfz17_5, hfz17_6, hfz17_7, hfz17_8, hfz17_9⟩ := fz10 BK155.out
            go_wp2
            go_ret
            exact ⟨by first | rfl | (simp [errW_none, errW_some] <;> rfl) | (simp [*, errW_none, errW_some] <;> rfl), TB⟩
          · rw [if_neg c16] at H
            have c16b0 : (a0_2 == 0) = false := beq_eq_false_iff_ne.mpr c16
            have c16b1 : (a0_2 != 0) = true := bne_iff_ne.mpr c16
            replace H := bE H
            obtain ⟨t157, A18, H⟩ := H
            by_cases c19 : t157 = true
            · subst c19
              replace H := ifT H
              obtain rfl := Option.some.inj H
              obtain ⟨hcz20_0, hcz20_1, hcz20_2, hcz20_3, hcz20_4, hcz20_5, hcz20_6, hcz20_7, hcz20_8, hcz20_9⟩ := cz10 BK155.out
              obtain ⟨hfz20_0, hfz20_1, hfz20_2, hfz20_3, hfz20_4, hfz20_5, hfz20_6, hfz20_7, hfz20_8, hfz20_9⟩ := fz10 BK155.out
              go_wp2_with (first | (go_at_call 23; (with_reducible refine (spec_ManOk.calls kj2 a0_2 a0_3 a0_4 _ _ l0_5 true _ ?side1 ?side2 A18.out).mono ?_); (case side1 => have X_ := (Kd.C_below HR0_5.out HB.out); exact TC); (case side2 => exact HC0_5.out); rintro e w21 ⟨rfl, hb⟩; replace BK155 := aM (blk_below (by have X_ := BK155.out; exact TX) hb); replace HB := aM (below_step TB hb); clear hb))
              go_ret
              exact ⟨by first | rfl | (simp [errW_none, errW_some] <;> rfl) | (simp [*, errW_none, errW_some] <;> rfl), TB⟩
            · replace c19 := Bool.eq_false_iff.mpr c19
              subst c19
              replace H := ifF H
              obtain rfl := Option.some.inj H
              obtain ⟨hcz22_0, hcz22_1, hcz22_2, hcz22_3, hcz22_4, hcz22_5, hcz22_6, hcz22_7, hcz22_8, hcz22_9⟩ := cz10 BK155.out
              obtain ⟨hfz22_0, hfz22_1, hfz22_2, hfz22_3, hfz22_4, hfz22_5, hfz22_6, hfz22_7, hfz22_8, hfz22_9⟩ := fz10 BK155.out
              go_wp2_with (first | (go_at_call 23; (with_reducible refine (spec_ManOk.calls kj2 a0_2 a0_3 a0_4 _ _ l0_5 false _ ?side1 ?side2 A18.out).mono ?_); (case side1 => have X_ := (Kd.C_below HR0_5.out HB.out); exact TC); (case side2 => exact HC0_5.out); rintro e w23 ⟨rfl, hb⟩; replace BK155 := aM (blk_below (by have X_ := BK155.out; exact TX) hb); replace HB := aM (below_step TB hb); clear hb))
              go_ret
              exact ⟨by first | rfl | (simp [errW_none, errW_some] <;> rfl) | (simp [*, errW_none, errW_some] <;> rfl), TB⟩
        · rw [if_neg c15] at H
          have c15b0 : (a0_1 == 0) = false := beq_eq_false_iff_ne.mpr c15
          have c15b1 : (a0_1 != 0) = true := bne_iff_ne.mpr c15
          obtain rfl := Option.some.inj H
          obtain ⟨hcz24_0, hcz24_1, hcz24_2, hcz24_3, hcz24_4, hcz24_5, hcz24_6, hcz24_7, hcz24_8, hcz24_9⟩ := cz10 BK155.out
          obtain ⟨hfz24_0, hfz24_1, hfz24_2, hfz24_3, hfz24_4, hfz24_5, hfz24_6, hfz24_7, hfz24_8, hfz24_9⟩ := fz10 BK155.out
          go_wp2
          go_ret
          exact ⟨by first | rfl | (simp [errW_none, errW_some] <;> rfl) | (simp [*, errW_none, errW_some] <;> rfl), TB⟩
      · rw [if_neg c14] at H
        have c14b0 : (a0_0 == 1) = false := beq_eq_false_iff_ne.mpr c14
        have c14b1 : (a0_0 != 1) = true := bne_iff_ne.mpr c14
        by_cases c25 : a0_0 = 2
        · rw [if_pos c25] at H
          have c25b0 : (a0_0 == 2) = true := beq_iff_eq.mpr c25
          have c25b1 : (a0_0 != 2) = false := bne_eq_false_iff_eq.mpr c25
          clear c25
          replace H := bE H
          obtain ⟨t158, A26, H⟩ := H
          by_cases c27 : t158 = true
          · subst c27
            replace H := ifT H
            by_cases c28 : t156 = true
            · subst c28
              replace H := ifT H
              replace H := bE H
              obtain ⟨t159, A29, H⟩ := H
              by_cases c30 : t159 = true
              · subst c30
                replace H := ifT H
                replace H := bE H
                obtain ⟨t160, A31, H⟩ := H
                by_cases c32 : t160 = true
                · subst c32
                  replace H := ifT H
                  by_cases c33 : a0_8 = 0
                  · rw [if_pos c33] at H
                    have c33b0 : (a0_8 == 0) = true := beq_iff_eq.mpr c33
                    have c33b1 : (a0_8 != 0) = false := bne_eq_false_iff_eq.mpr c33
                    clear c33
                    obtain rfl := Option.some.inj H
                    obtain ⟨hcz34_0, hcz34_1, hcz34_2, hcz34_3, hcz34_4, hcz34_5, hcz34_6, hcz34_7, hcz34_8, hcz34_9⟩ := cz10 BK155.out
                    obtain ⟨hfz34_0, hfz34_1, hfz34_2, hfz34_3, hfz34_4, hfz34_5, hfz34_6, hfz34_7, hfz34_8, hfz34_9⟩ := fz10 BK155.out
                    go_wp2_with (first | ((with_reducible refine gate_callee (f := 24) rfl ?_); refine gL (some 53) Tryd.func24 #[.int .i64 a0_1, .int .i64 0, .int .i64 1000000] ?_; (with_reducible refine (spec_l1In.calls a0_1 0 1000000 true _ A26.out).mono ?_); rintro e w' ⟨rfl, ⟨nd, rfl⟩⟩; refine ⟨_, rfl, ?_⟩) | (go_at_call 25; (with_reducible refine (spec_SetOk.calls a0_6 true _ A29.out).mono ?_); rintro e w' ⟨rfl, ⟨nd, rfl⟩⟩) | (go_at_call 25; (with_reducible refine (spec_SetOk.calls a0_7 true _ A31.out).mono ?_); rintro e w' ⟨rfl, ⟨nd, rfl⟩⟩))
                    go_ret
                    exact ⟨by first | rfl | (simp [errW_none, errW_some] <;> rfl) | (simp [*, errW_none, errW_some] <;> rfl), TB⟩
                  · rw [if_neg c33] at H
                    have c33b0 : (a0_8 == 0) = false := beq_eq_false_iff_ne.mpr c33
                    have c33b1 : (a0_8 != 0) = true := bne_iff_ne.mpr c33
                    obtain rfl := Option.some.inj H
                    obtain ⟨hcz35_0, hcz35_1, hcz35_2, hcz35_3, hcz35_4, hcz35_5, hcz35_6, hcz35_7, hcz35_8, hcz35_9⟩ := cz10 BK155.out
                    obtain ⟨hfz35_0, hfz35_1, hfz35_2, hfz35_3, hfz35_4, hfz35_5, hfz35_6, hfz35_7, hfz35_8, hfz35_9⟩ := fz10 BK155.out
                    go_wp2_with (first | ((with_reducible refine gate_callee (f := 24) rfl ?_); refine gL (some 53) Tryd.func24 #[.int .i64 a0_1, .int .i64 0, .int .i64 1000000] ?_; (with_reducible refine (spec_l1In.calls a0_1 0 1000000 true _ A26.out).mono ?_); rintro e w' ⟨rfl, ⟨nd, rfl⟩⟩; refine ⟨_, rfl, ?_⟩) | (go_at_call 25; (with_reducible refine (spec_SetOk.calls a0_6 true _ A29.out).mono ?_); rintro e w' ⟨rfl, ⟨nd, rfl⟩⟩) | (go_at_call 25; (with_reducible refine (spec_SetOk.calls a0_7 true _ A31.out).mono ?_); rintro e w' ⟨rfl, ⟨nd, rfl⟩⟩))
                    go_ret
                    exact ⟨by first | rfl | (simp [errW_none, errW_some] <;> rfl) | (simp [*, errW_none, errW_some] <;> rfl), TB⟩
                · replace c32 := Bool.eq_false_iff.mpr c32
                  subst c32
                  replace H := ifF H
                  obtain rfl := Option.some.inj H
                  obtain ⟨hcz36_0, hcz36_1, hcz36_2, hcz36_3, hcz36_4, hcz36_5, hcz36_6, hcz36_7, hcz36_8, hcz36_9⟩ := cz10 BK155.out
                  obtain ⟨hfz36_0, hfz36_1, hfz36_2, hfz36_3, hfz36_4, hfz36_5, hfz36_6, hfz36_7, hfz36_8, hfz36_9⟩ := fz10 BK155.out
                  go_wp2_with (first | ((with_reducible refine gate_callee (f := 24) rfl ?_); refine gL (some 53) Tryd.func24 #[.int .i64 a0_1, .int .i64 0, .int .i64 1000000] ?_; (with_reducible refine (spec_l1In.calls a0_1 0 1000000 true _ A26.out).mono ?_); rintro e w' ⟨rfl, ⟨nd, rfl⟩⟩; refine ⟨_, rfl, ?_⟩) | (go_at_call 25; (with_reducible refine (spec_SetOk.calls a0_6 true _ A29.out).mono ?_); rintro e w' ⟨rfl, ⟨nd, rfl⟩⟩) | (go_at_call 25; (with_reducible refine (spec_SetOk.calls a0_7 false _ A31.out).mono ?_); rintro e w' ⟨rfl, ⟨nd, rfl⟩⟩))
                  go_ret
                  exact ⟨by first | rfl | (simp [errW_none, errW_some] <;> rfl) | (simp [*, errW_none, errW_some] <;> rfl), TB⟩
              · replace c30 := Bool.eq_false_iff.mpr c30
                subst c30
                replace H := ifF H
                obtain rfl := Option.some.inj H
                obtain ⟨hcz37_0, hcz37_1, hcz37_2, hcz37_3, hcz37_4, hcz37_5, hcz37_6, hcz37_7, hcz37_8, hcz37_9⟩ := cz10 BK155.out
                obtain ⟨hfz37_0, hfz37_1, hfz37_2, hfz37_3, hfz37_4, hfz37_5, hfz37_6, hfz37_7, hfz37_8, hfz37_9⟩ := fz10 BK155.out
                go_wp2_with (first | ((with_reducible refine gate_callee (f := 24) rfl ?_); refine gL (some 53) Tryd.func24 #[.int .i64 a0_1, .int .i64 0, .int .i64 1000000] ?_; (with_reducible refine (spec_l1In.calls a0_1 0 1000000 true _ A26.out).mono ?_); rintro e w' ⟨rfl, ⟨nd, rfl⟩⟩; refine ⟨_, rfl, ?_⟩) | (go_at_call 25; (with_reducible refine (spec_SetOk.calls a0_6 false _ A29.out).mono ?_); rintro e w' ⟨rfl, ⟨nd, rfl⟩⟩))
                go_ret
                exact ⟨by first | rfl | (simp [errW_none, errW_some] <;> rfl) | (simp [*, errW_none, errW_some] <;> rfl), TB⟩
            · replace c28 := Bool.eq_false_iff.mpr c28
              subst c28
              replace H := ifF H
              obtain rfl := Option.some.inj H
              obtain ⟨hcz38_0, hcz38_1, hcz38_2, hcz38_3, hcz38_4, hcz38_5, hcz38_6, hcz38_7, hcz38_8, hcz38_9⟩ := cz10 BK155.out
              obtain ⟨hfz38_0, hfz38_1, hfz38_2, hfz38_3, hfz38_4, hfz38_5, hfz38_6, hfz38_7, hfz38_8, hfz38_9⟩ := fz10 BK155.out
              go_wp2_with (first | ((with_reducible refine gate_callee (f := 24) rfl ?_); refine gL (some 53) Tryd.func24 #[.int .i64 a0_1, .int .i64 0, .int .i64 1000000] ?_; (with_reducible refine (spec_l1In.calls a0_1 0 1000000 true _ A26.out).mono ?_); rintro e w' ⟨rfl, ⟨nd, rfl⟩⟩; refine ⟨_, rfl, ?_⟩))
              go_ret
              exact ⟨by first | rfl | (simp [errW_none, errW_some] <;> rfl) | (simp [*, errW_none, errW_some] <;> rfl), TB⟩
          · replace c27 := Bool.eq_false_iff.mpr c27
            subst c27
            replace H := ifF H
            obtain rfl := Option.some.inj H
            obtain ⟨hcz39_0, hcz39_1, hcz39_2, hcz39_3, hcz39_4, hcz39_5, hcz39_6, hcz39_7, hcz39_8, hcz39_9⟩ := cz10 BK155.out
            obtain ⟨hfz39_0, hfz39_1, hfz39_2, hfz39_3, hfz39_4, hfz39_5, hfz39_6, hfz39_7, hfz39_8, hfz39_9⟩ := fz10 BK155.out
            go_wp2_with (first | ((with_reducible refine gate_callee (f := 24) rfl ?_); refine gL (some 53) Tryd.func24 #[.int .i64 a0_1, .int .i64 0, .int .i64 1000000] ?_; (with_reducible refine (spec_l1In.calls a0_1 0 1000000 false _ A26.out).mono ?_); rintro e w' ⟨rfl, ⟨nd, rfl⟩⟩; refine ⟨_, rfl, ?_⟩))
            go_ret
            exact ⟨by first | rfl | (simp [errW_none, errW_some] <;> rfl) | (simp [*, errW_none, errW_some] <;> rfl), TB⟩
        · rw [if_neg c25] at H
          have c25b0 : (a0_0 == 2) = false := beq_eq_false_iff_ne.mpr c25
          have c25b1 : (a0_0 != 2) = true := bne_iff_ne.mpr c25
          by_cases c40 : a0_0 = 3
          · rw [if_pos c40] at H
            have c40b0 : (a0_0 == 3) = true := beq_iff_eq.mpr c40
            have c40b1 : (a0_0 != 3) = false := bne_eq_false_iff_eq.mpr c40
            clear c40
            replace H := bE H
            obtain ⟨t161, A41, H⟩ := H
            by_cases c42 : t161 = true
            · subst c42
              replace H := ifT H
              by_cases c43 : t156 = true
              · subst c43
                replace H := ifT H
                by_cases c44 : a0_6 = 0
                · rw [if_pos c44] at H
                  have c44b0 : (a0_6 == 0) = true := beq_iff_eq.mpr c44
                  have c44b1 : (a0_6 != 0) = false := bne_eq_false_iff_eq.mpr c44
                  clear c44
                  by_cases c45 : a0_7 = 0
                  · rw [if_pos c45] at H
                    have c45b0 : (a0_7 == 0) = true := beq_iff_eq.mpr c45
                    have c45b1 : (a0_7 != 0) = false := bne_eq_false_iff_eq.mpr c45
                    clear c45
                    replace H := bE H
                    obtain ⟨t162, A46, H⟩ := H
                    by_cases c47 : t162 = true
                    · subst c47
                      replace H := ifT H
                      replace H := bE H
                      obtain ⟨t163, A48, H⟩ := H
                      obtain rfl := Option.some.inj H
                      obtain ⟨hcz49_0, hcz49_1, hcz49_2, hcz49_3, hcz49_4, hcz49_5, hcz49_6, hcz49_7, hcz49_8, hcz49_9⟩ := cz10 BK155.out
                      obtain ⟨hfz49_0, hfz49_1, hfz49_2, hfz49_3, hfz49_4, hfz49_5, hfz49_6, hfz49_7, hfz49_8, hfz49_9⟩ := fz10 BK155.out
                      go_wp2_with (first | ((with_reducible refine gate_callee (f := 24) rfl ?_); refine gL (some 82) Tryd.func24 #[.int .i64 a0_1, .int .i64 1, .int .i64 1000000] ?_; (with_reducible refine (spec_l1In.calls a0_1 1 1000000 true _ A41.out).mono ?_); rintro e w' ⟨rfl, ⟨nd, rfl⟩⟩; refine ⟨_, rfl, ?_⟩) | (go_at_call 24; (with_reducible refine (spec_l1In.calls a0_8 0 39 true _ A46.out).mono ?_); rintro e w' ⟨rfl, ⟨nd, rfl⟩⟩) | (go_at_call 24; (with_reducible refine (spec_l1In.calls (l0_9.length : Int) 1 6 t163 _ A48.out).mono ?_); rintro e w' ⟨rfl, ⟨nd, rfl⟩⟩))
                      go_ret
                      exact ⟨by first | rfl | (simp [errW_none, errW_some] <;> rfl) | (simp [*, errW_none, errW_some] <;> rfl), TB⟩
                    · replace c47 := Bool.eq_false_iff.mpr c47
                      subst c47
                      replace H := ifF H
                      obtain rfl := Option.some.inj H
                      obtain ⟨hcz50_0, hcz50_1, hcz50_2, hcz50_3, hcz50_4, hcz50_5, hcz50_6, hcz50_7, hcz50_8, hcz50_9⟩ := cz10 BK155.out
                      obtain ⟨hfz50_0, hfz50_1, hfz50_2, hfz50_3, hfz50_4, hfz50_5, hfz50_6, hfz50_7, hfz50_8, hfz50_9⟩ := fz10 BK155.out
                      go_wp2_with (first | ((with_reducible refine gate_callee (f := 24) rfl ?_); refine gL (some 82) Tryd.func24 #[.int .i64 a0_1, .int .i64 1, .int .i64 1000000] ?_; (with_reducible refine (spec_l1In.calls a0_1 1 1000000 true _ A41.out).mono ?_); rintro e w' ⟨rfl, ⟨nd, rfl⟩⟩; refine ⟨_, rfl, ?_⟩) | (go_at_call 24; (with_reducible refine (spec_l1In.calls a0_8 0 39 false _ A46.out).mono ?_); rintro e w' ⟨rfl, ⟨nd, rfl⟩⟩))
                      go_ret
                      exact ⟨by first | rfl | (simp [errW_none, errW_some] <;> rfl) | (simp [*, errW_none, errW_some] <;> rfl), TB⟩
                  · rw [if_neg c45] at H
                    have c45b0 : (a0_7 == 0) = false := beq_eq_false_iff_ne.mpr c45
                    have c45b1 : (a0_7 != 0) = true := bne_iff_ne.mpr c45
                    obtain rfl := Option.some.inj H
                    obtain ⟨hcz51_0, hcz51_1, hcz51_2, hcz51_3, hcz51_4, hcz51_5, hcz51_6, hcz51_7, hcz51_8, hcz51_9⟩ := cz10 BK155.out
                    obtain ⟨hfz51_0, hfz51_1, hfz51_2, hfz51_3, hfz51_4, hfz51_5, hfz51_6, hfz51_7, hfz51_8, hfz51_9⟩ := fz10 BK155.out
                    go_wp2_with (first | ((with_reducible refine gate_callee (f := 24) rfl ?_); refine gL (some 82) Tryd.func24 #[.int .i64 a0_1, .int .i64 1, .int .i64 1000000] ?_; (with_reducible refine (spec_l1In.calls a0_1 1 1000000 true _ A41.out).mono ?_); rintro e w' ⟨rfl, ⟨nd, rfl⟩⟩; refine ⟨_, rfl, ?_⟩))
                    go_ret
                    exact ⟨by first | rfl | (simp [errW_none, errW_some] <;> rfl) | (simp [*, errW_none, errW_some] <;> rfl), TB⟩
                · rw [if_neg c44] at H
                  have c44b0 : (a0_6 == 0) = false := beq_eq_false_iff_ne.mpr c44
                  have c44b1 : (a0_6 != 0) = true := bne_iff_ne.mpr c44
                  obtain rfl := Option.some.inj H
                  obtain ⟨hcz52_0, hcz52_1, hcz52_2, hcz52_3, hcz52_4, hcz52_5, hcz52_6, hcz52_7, hcz52_8, hcz52_9⟩ := cz10 BK155.out
                  obtain ⟨hfz52_0, hfz52_1, hfz52_2, hfz52_3, hfz52_4, hfz52_5, hfz52_6, hfz52_7, hfz52_8, hfz52_9⟩ := fz10 BK155.out
                  go_wp2_with (first | ((with_reducible refine gate_callee (f := 24) rfl ?_); refine gL (some 82) Tryd.func24 #[.int .i64 a0_1, .int .i64 1, .int .i64 1000000] ?_; (with_reducible refine (spec_l1In.calls a0_1 1 1000000 true _ A41.out).mono ?_); rintro e w' ⟨rfl, ⟨nd, rfl⟩⟩; refine ⟨_, rfl, ?_⟩))
                  go_ret
                  exact ⟨by first | rfl | (simp [errW_none, errW_some] <;> rfl) | (simp [*, errW_none, errW_some] <;> rfl), TB⟩
              · replace c43 := Bool.eq_false_iff.mpr c43
                subst c43
                replace H := ifF H
                obtain rfl := Option.some.inj H
                obtain ⟨hcz53_0, hcz53_1, hcz53_2, hcz53_3, hcz53_4, hcz53_5, hcz53_6, hcz53_7, hcz53_8, hcz53_9⟩ := cz10 BK155.out
                obtain ⟨hfz53_0, hfz53_1, hfz53_2, hfz53_3, hfz53_4, hfz53_5, hfz53_6, hfz53_7, hfz53_8, hfz53_9⟩ := fz10 BK155.out
                go_wp2_with (first | ((with_reducible refine gate_callee (f := 24) rfl ?_); refine gL (some 82) Tryd.func24 #[.int .i64 a0_1, .int .i64 1, .int .i64 1000000] ?_; (with_reducible refine (spec_l1In.calls a0_1 1 1000000 true _ A41.out).mono ?_); rintro e w' ⟨rfl, ⟨nd, rfl⟩⟩; refine ⟨_, rfl, ?_⟩))
                go_ret
                exact ⟨by first | rfl | (simp [errW_none, errW_some] <;> rfl) | (simp [*, errW_none, errW_some] <;> rfl), TB⟩
            · replace c42 := Bool.eq_false_iff.mpr c42
              subst c42
              replace H := ifF H
              obtain rfl := Option.some.inj H
              obtain ⟨hcz54_0, hcz54_1, hcz54_2, hcz54_3, hcz54_4, hcz54_5, hcz54_6, hcz54_7, hcz54_8, hcz54_9⟩ := cz10 BK155.out
              obtain ⟨hfz54_0, hfz54_1, hfz54_2, hfz54_3, hfz54_4, hfz54_5, hfz54_6, hfz54_7, hfz54_8, hfz54_9⟩ := fz10 BK155.out
              go_wp2_with (first | ((with_reducible refine gate_callee (f := 24) rfl ?_); refine gL (some 82) Tryd.func24 #[.int .i64 a0_1, .int .i64 1, .int .i64 1000000] ?_; (with_reducible refine (spec_l1In.calls a0_1 1 1000000 false _ A41.out).mono ?_); rintro e w' ⟨rfl, ⟨nd, rfl⟩⟩; refine ⟨_, rfl, ?_⟩))
              go_ret
              exact ⟨by first | rfl | (simp [errW_none, errW_some] <;> rfl) | (simp [*, errW_none, errW_some] <;> rfl), TB⟩
          · rw [if_neg c40] at H
            have c40b0 : (a0_0 == 3) = false := beq_eq_false_iff_ne.mpr c40
            have c40b1 : (a0_0 != 3) = true := bne_iff_ne.mpr c40
            by_cases c55 : a0_0 = 4
            · rw [if_pos c55] at H
              have c55b0 : (a0_0 == 4) = true := beq_iff_eq.mpr c55
              have c55b1 : (a0_0 != 4) = false := bne_eq_false_iff_eq.mpr c55
              clear c55
              replace H := bE H
              obtain ⟨t164, A56, H⟩ := H
              by_cases c57 : t164 = true
              · subst c57
                replace H := ifT H
                by_cases c58 : t156 = true
                · subst c58
                  replace H := ifT H
                  obtain rfl := Option.some.inj H
                  obtain ⟨hcz59_0, hcz59_1, hcz59_2, hcz59_3, hcz59_4, hcz59_5, hcz59_6, hcz59_7, hcz59_8, hcz59_9⟩ := cz10 BK155.out
                  obtain ⟨hfz59_0, hfz59_1, hfz59_2, hfz59_3, hfz59_4, hfz59_5, hfz59_6, hfz59_7, hfz59_8, hfz59_9⟩ := fz10 BK155.out
                  go_wp2_with (first | (go_at_call 24; (with_reducible refine (spec_l1In.calls a0_1 0 1000000 true _ A56.out).mono ?_); rintro e w' ⟨rfl, ⟨nd, rfl⟩⟩))
                  go_ret
                  exact ⟨by first | rfl | (simp [errW_none, errW_some] <;> rfl) | (simp [*, errW_none, errW_some] <;> rfl), TB⟩
                · replace c58 := Bool.eq_false_iff.mpr c58
                  subst c58
                  replace H := ifF H
                  obtain rfl := Option.some.inj H
                  obtain ⟨hcz60_0, hcz60_1, hcz60_2, hcz60_3, hcz60_4, hcz60_5, hcz60_6, hcz60_7, hcz60_8, hcz60_9⟩ := cz10 BK155.out
                  obtain ⟨hfz60_0, hfz60_1, hfz60_2, hfz60_3, hfz60_4, hfz60_5, hfz60_6, hfz60_7, hfz60_8, hfz60_9⟩ := fz10 BK155.out
                  go_wp2_with (first | (go_at_call 24; (with_reducible refine (spec_l1In.calls a0_1 0 1000000 true _ A56.out).mono ?_); rintro e w' ⟨rfl, ⟨nd, rfl⟩⟩))
                  go_ret
                  exact ⟨by first | rfl | (simp [errW_none, errW_some] <;> rfl) | (simp [*, errW_none, errW_some] <;> rfl), TB⟩
              · replace c57 := Bool.eq_false_iff.mpr c57
                subst c57
                replace H := ifF H
                obtain rfl := Option.some.inj H
                obtain ⟨hcz61_0, hcz61_1, hcz61_2, hcz61_3, hcz61_4, hcz61_5, hcz61_6, hcz61_7, hcz61_8, hcz61_9⟩ := cz10 BK155.out
                obtain ⟨hfz61_0, hfz61_1, hfz61_2, hfz61_3, hfz61_4, hfz61_5, hfz61_6, hfz61_7, hfz61_8, hfz61_9⟩ := fz10 BK155.out
                go_wp2_with (first | (go_at_call 24; (with_reducible refine (spec_l1In.calls a0_1 0 1000000 false _ A56.out).mono ?_); rintro e w' ⟨rfl, ⟨nd, rfl⟩⟩))
                go_ret
                exact ⟨by first | rfl | (simp [errW_none, errW_some] <;> rfl) | (simp [*, errW_none, errW_some] <;> rfl), TB⟩
            · rw [if_neg c55] at H
              have c55b0 : (a0_0 == 4) = false := beq_eq_false_iff_ne.mpr c55
              have c55b1 : (a0_0 != 4) = true := bne_iff_ne.mpr c55
              obtain rfl := Option.some.inj H
              obtain ⟨hcz62_0, hcz62_1, hcz62_2, hcz62_3, hcz62_4, hcz62_5, hcz62_6, hcz62_7, hcz62_8, hcz62_9⟩ := cz10 BK155.out
              obtain ⟨hfz62_0, hfz62_1, hfz62_2, hfz62_3, hfz62_4, hfz62_5, hfz62_6, hfz62_7, hfz62_8, hfz62_9⟩ := fz10 BK155.out
              go_wp2
              go_ret
              exact ⟨by first | rfl | (simp [errW_none, errW_some] <;> rfl) | (simp [*, errW_none, errW_some] <;> rfl), TB⟩

end Go.Proofs.YtanpaipapcjpoaaDoor.Q
