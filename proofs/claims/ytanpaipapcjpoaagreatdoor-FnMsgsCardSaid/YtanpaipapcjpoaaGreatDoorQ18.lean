/- Functions of the program as plain Lean functions, and that a call of each comes to what its function tells. Written by a program of this seat. -/
import Derived.Test.YtanpaipapcjpoaaGreatDoorQ0
import Derived.Test.YtanpaipapcjpoaaGreatDoorQ1
import Derived.Test.YtanpaipapcjpoaaGreatDoorQ2
import Derived.Test.YtanpaipapcjpoaaGreatDoorQ3
import Derived.Test.YtanpaipapcjpoaaGreatDoorQ4
set_option maxHeartbeats 40000000
set_option maxRecDepth 100000
namespace Go.Proofs.YtanpaipapcjpoaaGreatDoor.Q
open Go.RowKit Go.Proofs.YtanpaipapcjpoaaGreatDoorW.PrintWords Go.Proofs.YtanpaipapcjpoaaGreatDoorW.PrintLast Go.Proofs.YtanpaipapcjpoaaGreatDoorW.PrintMore
attribute [local go_sem] min2_int min_two
set_option linter.unusedVariables false
set_option linter.unusedSimpArgs false
attribute [local go_sem high] eqA75
def spec_DrawPartMsg.f (k : Nat) (l0 : List Int) : Option (Int × Int × List Int) := (spec_l1New.f k l0).bind fun bt621 => ((spec_l1Below.f bt621.1 bt621.2.1 bt621.2.2 4).bind fun bt625 => ((spec_l5Part.f bt621.1 bt625.2.1 bt625.2.2).bind fun bt628 => ((spec_l3Bytes.f k bt621.1 bt628.2.1 bt628.2.2 7).bind fun bt631 => (some (bt625.1, bt628.1, bt631.1)))))
theorem spec_DrawPartMsg.mono : ∀ a0 k, LeO (spec_DrawPartMsg.f k a0) (spec_DrawPartMsg.f (k + 1) a0) := by
  intro a0 k;have m0_ := @spec_l1New.mono;have m1_ := @spec_l3Bytes.mono;unfold spec_DrawPartMsg.f;exact LM
theorem spec_DrawPartMsg.calls {k : Nat} {A0 : Option Addr} {c0 : Nat} {l0 : List Int} {r1 : Int} {r2 : Int} {r3 : List Int} {w : World} (hr0 : Kd.C (Kd.int .u8) w A0 l0.length l0) (hc0 : l0.length ≤ c0) (h : spec_DrawPartMsg.f k l0 = some (r1, r2, r3)) :
    Calls Tryz.prog 8 #[.slice A0 l0.length c0] w fun e w' => ∃ v2_ : Value, e = .returned (.tuple #[.int .i64 r1, .int .i64 r2, v2_]) ∧ Kd.R (Kd.int .u8) 5 w' w.heap.size (fun _ => True) v2_ r3 ∧ Below w.heap.size w w' := by
  have HR0 := aM hr0
  have HC0 := aM hc0
  clear hr0 hc0
  have HB := aM (Below.refl w.heap.size w)
  have H := h
  clear h
  unfold spec_DrawPartMsg.f at H
  replace H := bE H
  obtain ⟨⟨t621, t622, t623⟩, A2, H⟩ := H
  dsimp only at H
  replace H := bE H
  obtain ⟨⟨t625, t626, t627⟩, A3, H⟩ := H
  dsimp only at H
  replace H := bE H
  obtain ⟨⟨t628, t629, t630⟩, A4, H⟩ := H
  dsimp only at H
  replace H := bE H
  obtain ⟨⟨t631, t634, t635⟩, A5, H⟩ := H
  dsimp only at H
  simp only [Option.some.injEq, Prod.mk.injEq] at H
  obtain ⟨rfl, rfl, rfl⟩ := H
  go_enter Tryz.func8, Tryz.ntmps8
  go_wp2_with (first | ((with_reducible refine gate_callee (f := 23) rfl ?_); refine gL (some 7) Tryz.func23 #[.slice A0 l0.length c0] ?_; (with_reducible refine (spec_l1New.calls w _ ?side1 ?side2 ?side3 A2.out).mono ?_); (case side1 => exact TB); (case side2 => exact HR0.out); (case side3 => exact HC0.out); rintro e w6 ⟨g624, rfl, hi, hb, hb2⟩; refine ⟨_, rfl, ?_⟩; have HI624 := aM (hi); replace HB := aM (hb); clear hi hb hb2) | ((with_reducible refine gate_callee (f := 31) rfl ?_); refine gL (some 9) Tryz.func31 #[.pointer (some ⟨g624, 0, none⟩), .int .i64 4] ?_; (with_reducible refine (spec_l1Below.calls w _ ?side1 ?side2 A3.out).mono ?_); (case side1 => exact TI70 HI624); (case side2 => exact TG70 HB HI624); rintro e w7 ⟨rfl, hi, hb, hk⟩; refine ⟨_, rfl, ?_⟩; replace HB := aM (hb); replace HI624 := aM (hi); clear hi hb hk) | ((with_reducible refine gate_callee (f := 32) rfl ?_); refine gL (some 11) Tryz.func32 #[.pointer (some ⟨g624, 0, none⟩)] ?_; (with_reducible refine (spec_l5Part.calls w _ ?side1 ?side2 A4.out).mono ?_); (case side1 => exact TI70 HI624); (case side2 => exact TG70 HB HI624); rintro e w8 ⟨rfl, hi, hb, hk⟩; refine ⟨_, rfl, ?_⟩; replace HB := aM (hb); replace HI624 := aM (hi); clear hi hb hk) | ((with_reducible refine gate_callee (f := 33) rfl ?_); refine gL (some 13) Tryz.func33 #[.pointer (some ⟨g624, 0, none⟩), .int .i64 7] ?_; (with_reducible refine (spec_l3Bytes.calls w _ ?side1 ?side2 A5.out).mono ?_); (case side1 => exact TI70 HI624); (case side2 => exact TG70 HB HI624); rintro e w9 ⟨v632, rfl, ho0, hi, hb, hk⟩; refine ⟨_, rfl, ?_⟩; have HO633 := aM (Kd.R_lower ho0 (below_size (TG70 HB HI624))); replace HB := aM (hb); replace HI624 := aM (hi); (try clear hb); (try clear hb2); (try clear hk); (try clear hi); (try clear ho0)))
  go_ret3
  exact ⟨_, TE, by have X_ := HO633.out; exact TR, TG70 HB HI624⟩
def spec_DrawWantMsg.f (k : Nat) (l0 : List Int) : Option (Int × Int × Int) := (spec_l1New.f k l0).bind fun bt636 => ((spec_l5Any.f bt636.1 bt636.2.1 bt636.2.2).bind fun bt640 => ((spec_l1Below.f bt636.1 bt640.2.1 bt640.2.2 3).bind fun bt643 => ((spec_l5Any.f bt636.1 bt643.2.1 bt643.2.2).bind fun bt646 => (some (bt643.1, bt640.1, bt646.1)))))
theorem spec_DrawWantMsg.mono : ∀ a0 k, LeO (spec_DrawWantMsg.f k a0) (spec_DrawWantMsg.f (k + 1) a0) := by
  intro a0 k;have m0_ := @spec_l1New.mono;unfold spec_DrawWantMsg.f;exact LM
theorem spec_DrawWantMsg.calls {k : Nat} {A0 : Option Addr} {c0 : Nat} {l0 : List Int} {r1 : Int} {r2 : Int} {r3 : Int} {w : World} (hr0 : Kd.C (Kd.int .u8) w A0 l0.length l0) (hc0 : l0.length ≤ c0) (h : spec_DrawWantMsg.f k l0 = some (r1, r2, r3)) :
    Calls Tryz.prog 9 #[.slice A0 l0.length c0] w fun e w' => e = .returned (.tuple #[.int .i64 r1, .int .i64 r2, .int .i64 r3]) ∧ Below w.heap.size w w' := by
  have HR0 := aM hr0
  have HC0 := aM hc0
  clear hr0 hc0
  have HB := aM (Below.refl w.heap.size w)
  have H := h
  clear h
  unfold spec_DrawWantMsg.f at H
  replace H := bE H
  obtain ⟨⟨t636, t637, t638⟩, A2, H⟩ := H
  dsimp only at H
  replace H := bE H
  obtain ⟨⟨t640, t641, t642⟩, A3, H⟩ := H
  dsimp only at H
  replace H := bE H
  obtain ⟨⟨t643, t644, t645⟩, A4, H⟩ := H
  dsimp only at H
  replace H := bE H
  obtain ⟨⟨t646, t647, t648⟩, A5, H⟩ := H
  dsimp only at H
  simp only [Option.some.injEq, Prod.mk.injEq] at H
  obtain ⟨rfl, rfl, rfl⟩ := H
  go_enter Tryz.func9, Tryz.ntmps9
  go_wp2_with (first | ((with_reducible refine gate_callee (f := 23) rfl ?_); refine gL (some 8) Tryz.func23 #[.slice A0 l0.length c0] ?_; (with_reducible refine (spec_l1New.calls w _ ?side1 ?side2 ?side3 A2.out).mono ?_); (case side1 => exact TB); (case side2 => exact HR0.out); (case side3 => exact HC0.out); rintro e w6 ⟨g639, rfl, hi, hb, hb2⟩; refine ⟨_, rfl, ?_⟩; have HI639 := aM (hi); replace HB := aM (hb); clear hi hb hb2) | ((with_reducible refine gate_callee (f := 34) rfl ?_); refine gL (some 10) Tryz.func34 #[.pointer (some ⟨g639, 0, none⟩)] ?_; (with_reducible refine (spec_l5Any.calls w _ ?side1 ?side2 A3.out).mono ?_); (case side1 => exact TI70 HI639); (case side2 => exact TG70 HB HI639); rintro e w7 ⟨rfl, hi, hb, hk⟩; refine ⟨_, rfl, ?_⟩; replace HB := aM (hb); replace HI639 := aM (hi); clear hi hb hk) | ((with_reducible refine gate_callee (f := 31) rfl ?_); refine gL (some 12) Tryz.func31 #[.pointer (some ⟨g639, 0, none⟩), .int .i64 3] ?_; (with_reducible refine (spec_l1Below.calls w _ ?side1 ?side2 A4.out).mono ?_); (case side1 => exact TI70 HI639); (case side2 => exact TG70 HB HI639); rintro e w8 ⟨rfl, hi, hb, hk⟩; refine ⟨_, rfl, ?_⟩; replace HB := aM (hb); replace HI639 := aM (hi); clear hi hb hk) | ((with_reducible refine gate_callee (f := 34) rfl ?_); refine gL (some 15) Tryz.func34 #[.pointer (some ⟨g639, 0, none⟩)] ?_; (with_reducible refine (spec_l5Any.calls w _ ?side1 ?side2 A5.out).mono ?_); (case side1 => exact TI70 HI639); (case side2 => exact TG70 HB HI639); rintro e w9 ⟨rfl, hi, hb, hk⟩; refine ⟨_, rfl, ?_⟩; replace HB := aM (hb); replace HI639 := aM (hi); clear hi hb hk))
  go_ret3
  exact ⟨TE, TG70 HB HI639⟩
def laws_same.l0 : Nat → List Int → List Int → Int → Option (Bool)
  | 0, _, _, _ => none
  | k + 1, x0, x1, x5 => if x5 < (x0.length : Int) then (if 0 ≤ x5 then (if x5 < (x1.length : Int) then (if (rd x0 x5) = (rd x1 x5) then (laws_same.l0 k x0 x1 (wrap64 (x5 + 1))) else (some false)) else (none)) else (none)) else (some true)
def laws_same.f (k : Nat) (l0 : List Int) (l1 : List Int) : Option (Bool) := if (l0.length : Int) = (l1.length : Int) then (laws_same.l0 k l0 l1 0) else (some false)
theorem laws_same.mono_l : ∀ k, (∀ y0 y1 y2, LeO (laws_same.l0 k y0 y1 y2) (laws_same.l0 (k + 1) y0 y1 y2))
  | 0 => fun _ _ _ r h => by simp [laws_same.l0] at h
  | k + 1 => by
    have ih0 := laws_same.mono_l k
    · intro y0 y1 y2
      unfold laws_same.l0
      exact LM
theorem laws_same.mono : ∀ a0 a1 k, LeO (laws_same.f k a0 a1) (laws_same.f (k + 1) a0 a1) := by
  intro a0 a1 k;have ih0 := laws_same.mono_l k;unfold laws_same.f;exact LM
theorem laws_same.calls {k : Nat} {A0 : Option Addr} {c0 : Nat} {l0 : List Int} {A1 : Option Addr} {c1 : Nat} {l1 : List Int} {r : Bool} {w : World} (hr0 : Kd.C (Kd.int .u8) w A0 l0.length l0) (hc0 : l0.length ≤ c0) (hr1 : Kd.C (Kd.int .u8) w A1 l1.length l1) (hc1 : l1.length ≤ c1) (h : laws_same.f k l0 l1 = some r) :
    Calls Tryz.prog 10 #[.slice A0 l0.length c0, .slice A1 l1.length c1] w fun e w' => e = .returned (.bool r) ∧ Drawn0 w w' := by
  have HR0 := aM hr0
  have HC0 := aM hc0
  clear hr0 hc0
  have HR1 := aM hr1
  have HC1 := aM hc1
  clear hr1 hc1
  have H := h
  clear h
  unfold laws_same.f at H
  by_cases c3 : (l0.length : Int) = (l1.length : Int)
  · rw [if_pos c3] at H
    have c3b0 : ((l0.length : Int) == (l1.length : Int)) = true := beq_iff_eq.mpr c3
    have c3b1 : ((l0.length : Int) != (l1.length : Int)) = false := bne_eq_false_iff_eq.mpr c3
    have c3b2 : (l0.length == l1.length) = true := by first | simpa using c3 | (simp at c3 ⊢; omega)
    clear c3
    have H' := aM H
    clear H
    go_enter Tryz.func10, Tryz.ntmps10
    go_wp2
    repeat (go_quiet (fail); try go_wp2)
    go_loopg [5] k (fun kq v5 w' => ∃ (x5_1 : Int), v5 = .int .i64 x5_1 ∧ Aside0 (laws_same.l0 kq l0 l1 x5_1 = some r) ∧ Aside0 (kq ≤ k) ∧ Drawn0 w w')
    case atStart => exact ⟨(0), TF, H', ⟨Nat.le_refl _⟩, TD⟩
    case round =>
      clear H'
      try clear c1
      try clear p2
      try clear c3
      try clear c3b0
      try clear c3b1
      try clear c3b2
      obtain ⟨x5_1, rfl, HA, HK1, ⟨m1, rfl⟩⟩ := hrel
      cases gk with
      | zero => exact absurd HA.out (by simp [laws_same.l0])
      | succ k1 =>
        have H := HA.out
        clear HA
        simp only [laws_same.l0] at H
        by_cases c4 : x5_1 < (l0.length : Int)
        · rw [if_pos c4] at H
          have c4b0 : decide (x5_1 < (l0.length : Int)) = true := decide_eq_true c4
          clear c4
          replace H := ifN H
          obtain ⟨c5, H⟩ := H
          have c5b0 : decide (0 ≤ x5_1) = true := decide_eq_true c5
          clear c5
          replace H := ifN H
          obtain ⟨c6, H⟩ := H
          have c6b0 : decide (x5_1 < (l1.length : Int)) = true := decide_eq_true c6
          clear c6
          by_cases c7 : (rd l0 x5_1) = (rd l1 x5_1)
          · rw [if_pos c7] at H
            have c7b0 : ((rd l0 x5_1) == (rd l1 x5_1)) = true := beq_iff_eq.mpr c7
            have c7b1 : ((rd l0 x5_1) != (rd l1 x5_1)) = false := bne_eq_false_iff_eq.mpr c7
            clear c7
            have H' := aM H
            clear H
            have p649 : 0 ≤ (x5_1 : Int) := DT
            have q649 : x5_1 < (l0.length : Int) := DT
            obtain ⟨ad649, e649, hx649_0⟩ := Kd.at_int HR0.out x5_1 p649 q649
            cases e649
            replace p649 := eq_true p649
            replace q649 := eq_true q649
            have p650 : 0 ≤ (x5_1 : Int) := DT
            have q650 : x5_1 < (l1.length : Int) := DT
            obtain ⟨ad650, e650, hx650_0⟩ := Kd.at_int HR1.out x5_1 p650 q650
            cases e650
            replace p650 := eq_true p650
            replace q650 := eq_true q650
            go_wp2
            repeat (go_quiet (fail); try go_wp2)
            go_roundg k1
            case measure => have := HK1.out; omega
            case rel => exact ⟨(wrap64 (x5_1 + 1)), TF, H', ⟨by have := HK1.out; omega⟩, TD⟩
          · rw [if_neg c7] at H
            have c7b0 : ((rd l0 x5_1) == (rd l1 x5_1)) = false := beq_eq_false_iff_ne.mpr c7
            have c7b1 : ((rd l0 x5_1) != (rd l1 x5_1)) = true := bne_iff_ne.mpr c7
            obtain rfl := oI H
            have p649 : 0 ≤ (x5_1 : Int) := DT
            have q649 : x5_1 < (l0.length : Int) := DT
            obtain ⟨ad649, e649, hx649_0⟩ := Kd.at_int HR0.out x5_1 p649 q649
            cases e649
            replace p649 := eq_true p649
            replace q649 := eq_true q649
            have p650 : 0 ≤ (x5_1 : Int) := DT
            have q650 : x5_1 < (l1.length : Int) := DT
            obtain ⟨ad650, e650, hx650_0⟩ := Kd.at_int HR1.out x5_1 p650 q650
            cases e650
            replace p650 := eq_true p650
            replace q650 := eq_true q650
            go_wp2
            repeat (go_quiet (fail); try go_wp2)
            go_ret
            exact ⟨by first | rfl | (simp; done) | (simp [*]; done), TD⟩
        · rw [if_neg c4] at H
          have c4b0 : decide (x5_1 < (l0.length : Int)) = false := decide_eq_false c4
          clear c4
          obtain rfl := oI H
          go_wp2
          repeat (go_quiet (fail); try go_wp2)
          go_ret
          exact ⟨by first | rfl | (simp; done) | (simp [*]; done), TD⟩
  · rw [if_neg c3] at H
    have c3b0 : ((l0.length : Int) == (l1.length : Int)) = false := beq_eq_false_iff_ne.mpr c3
    have c3b1 : ((l0.length : Int) != (l1.length : Int)) = true := bne_iff_ne.mpr c3
    have c3b2 : (l0.length == l1.length) = false := by first | simpa using c3 | (simp at c3 ⊢; omega)
    obtain rfl := oI H
    go_enter Tryz.func10, Tryz.ntmps10
    go_wp2
    repeat (go_quiet (fail); try go_wp2)
    go_ret
    exact ⟨by first | rfl | (simp; done) | (simp [*]; done), TD⟩
def spec_l6SameSums.l0 : Nat → List (S75) → List (S75) → Int → Option (Bool)
  | 0, _, _, _ => none
  | k + 1, x0, x1, x5 => if x5 < (x0.length : Int) then (if 0 ≤ x5 then (if x5 < (x1.length : Int) then (if (!(((rd_T75 x0 x5).f0) == ((rd_T75 x1 x5).f0)) || (!(((rd_T75 x0 x5).f1) == ((rd_T75 x1 x5).f1)))) = true then (some false) else (spec_l6SameSums.l0 k x0 x1 (wrap64 (x5 + 1)))) else (none)) else (none)) else (some true)
def spec_l6SameSums.f (k : Nat) (l0 : List (S75)) (l1 : List (S75)) : Option (Bool) := if (l0.length : Int) = (l1.length : Int) then (spec_l6SameSums.l0 k l0 l1 0) else (some false)
theorem spec_l6SameSums.mono_l : ∀ k, (∀ y0 y1 y2, LeO (spec_l6SameSums.l0 k y0 y1 y2) (spec_l6SameSums.l0 (k + 1) y0 y1 y2))
  | 0 => fun _ _ _ r h => by simp [spec_l6SameSums.l0] at h
  | k + 1 => by
    have ih0 := spec_l6SameSums.mono_l k
    · intro y0 y1 y2
      unfold spec_l6SameSums.l0
      exact LM
theorem spec_l6SameSums.mono : ∀ a0 a1 k, LeO (spec_l6SameSums.f k a0 a1) (spec_l6SameSums.f (k + 1) a0 a1) := by
  intro a0 a1 k;have ih0 := spec_l6SameSums.mono_l k;unfold spec_l6SameSums.f;exact LM
theorem spec_l6SameSums.calls {k : Nat} {A0 : Option Addr} {c0 : Nat} {l0 : List (S75)} {A1 : Option Addr} {c1 : Nat} {l1 : List (S75)} {r : Bool} {w : World} (hr0 : Kd.C k75 w A0 l0.length l0) (hc0 : l0.length ≤ c0) (hr1 : Kd.C k75 w A1 l1.length l1) (hc1 : l1.length ≤ c1) (h : spec_l6SameSums.f k l0 l1 = some r) :
    Calls Tryz.prog 76 #[.slice A0 l0.length c0, .slice A1 l1.length c1] w fun e w' => e = .returned (.bool r) ∧ Drawn0 w w' := by
  have hu75 := Tryz.underlying75
  have HR0 := aM hr0
  have HC0 := aM hc0
  clear hr0 hc0
  have HR1 := aM hr1
  have HC1 := aM hc1
  clear hr1 hc1
  have H := h
  clear h
  unfold spec_l6SameSums.f at H
  by_cases c3 : (l0.length : Int) = (l1.length : Int)
  · rw [if_pos c3] at H
    have c3b0 : ((l0.length : Int) == (l1.length : Int)) = true := beq_iff_eq.mpr c3
    have c3b1 : ((l0.length : Int) != (l1.length : Int)) = false := bne_eq_false_iff_eq.mpr c3
    have c3b2 : (l0.length == l1.length) = true := by first | simpa using c3 | (simp at c3 ⊢; omega)
    clear c3
    have H' := aM H
    clear H
    go_enter Tryz.func76, Tryz.ntmps76
    go_wp2
    repeat (go_quiet (fail); try go_wp2)
    go_loopg [5] k (fun kq v5 w' => ∃ (x5_1 : Int), v5 = .int .i64 x5_1 ∧ Aside0 (spec_l6SameSums.l0 kq l0 l1 x5_1 = some r) ∧ Aside0 (kq ≤ k) ∧ Drawn0 w w')
    case atStart => exact ⟨(0), TF, H', ⟨Nat.le_refl _⟩, TD⟩
    case round =>
      clear H'
      try clear c1
      try clear p2
      try clear c3
      try clear c3b0
      try clear c3b1
      try clear c3b2
      obtain ⟨x5_1, rfl, HA, HK1, ⟨m1, rfl⟩⟩ := hrel
      cases gk with
      | zero => exact absurd HA.out (by simp [spec_l6SameSums.l0])
      | succ k1 =>
        have H := HA.out
        clear HA
        simp only [spec_l6SameSums.l0] at H
        by_cases c4 : x5_1 < (l0.length : Int)
        · rw [if_pos c4] at H
          have c4b0 : decide (x5_1 < (l0.length : Int)) = true := decide_eq_true c4
          clear c4
          replace H := ifN H
          obtain ⟨c5, H⟩ := H
          have c5b0 : decide (0 ≤ x5_1) = true := decide_eq_true c5
          clear c5
          replace H := ifN H
          obtain ⟨c6, H⟩ := H
          have c6b0 : decide (x5_1 < (l1.length : Int)) = true := decide_eq_true c6
          clear c6
          by_cases c7 : (!(((rd_T75 l0 x5_1).f0) == ((rd_T75 l1 x5_1).f0)) || (!(((rd_T75 l0 x5_1).f1) == ((rd_T75 l1 x5_1).f1)))) = true
          · rw [if_pos c7] at H
            have c7b0 : (!(((rd_T75 l0 x5_1).f0) == ((rd_T75 l1 x5_1).f0)) || (!(((rd_T75 l0 x5_1).f1) == ((rd_T75 l1 x5_1).f1)))) = true := c7
            clear c7
            obtain rfl := oI H
            have p651 : 0 ≤ (x5_1 : Int) := DT
            have q651 : x5_1 < (l0.length : Int) := DT
            obtain ⟨ad651, e651, hx651_0, hx651_1⟩ := at_T75 HR0.out x5_1 p651 q651
            cases e651
            replace p651 := eq_true p651
            replace q651 := eq_true q651
            have p652 : 0 ≤ (x5_1 : Int) := DT
            have q652 : x5_1 < (l1.length : Int) := DT
            obtain ⟨ad652, e652, hx652_0, hx652_1⟩ := at_T75 HR1.out x5_1 p652 q652
            cases e652
            replace p652 := eq_true p652
            replace q652 := eq_true q652
            go_wp2
            repeat (go_quiet (fail); try go_wp2)
            go_ret
            exact ⟨by first | rfl | (simp; done) | (simp [*]; done), TD⟩
          · rw [if_neg c7] at H
            have c7b0 : (!(((rd_T75 l0 x5_1).f0) == ((rd_T75 l1 x5_1).f0)) || (!(((rd_T75 l0 x5_1).f1) == ((rd_T75 l1 x5_1).f1)))) = false := by simpa using c7
            clear c7
            have H' := aM H
            clear H
            have p651 : 0 ≤ (x5_1 : Int) := DT
            have q651 : x5_1 < (l0.length : Int) := DT
            obtain ⟨ad651, e651, hx651_0, hx651_1⟩ := at_T75 HR0.out x5_1 p651 q651
            cases e651
            replace p651 := eq_true p651
            replace q651 := eq_true q651
            have p652 : 0 ≤ (x5_1 : Int) := DT
            have q652 : x5_1 < (l1.length : Int) := DT
            obtain ⟨ad652, e652, hx652_0, hx652_1⟩ := at_T75 HR1.out x5_1 p652 q652
            cases e652
            replace p652 := eq_true p652
            replace q652 := eq_true q652
            go_wp2
            repeat (go_quiet (fail); try go_wp2)
            go_roundg k1
            case measure => have := HK1.out; omega
            case rel => exact ⟨(wrap64 (x5_1 + 1)), TF, H', ⟨by have := HK1.out; omega⟩, TD⟩
        · rw [if_neg c4] at H
          have c4b0 : decide (x5_1 < (l0.length : Int)) = false := decide_eq_false c4
          clear c4
          obtain rfl := oI H
          go_wp2
          repeat (go_quiet (fail); try go_wp2)
          go_ret
          exact ⟨by first | rfl | (simp; done) | (simp [*]; done), TD⟩
  · rw [if_neg c3] at H
    have c3b0 : ((l0.length : Int) == (l1.length : Int)) = false := beq_eq_false_iff_ne.mpr c3
    have c3b1 : ((l0.length : Int) != (l1.length : Int)) = true := bne_iff_ne.mpr c3
    have c3b2 : (l0.length == l1.length) = false := by first | simpa using c3 | (simp at c3 ⊢; omega)
    obtain rfl := oI H
    go_enter Tryz.func76, Tryz.ntmps76
    go_wp2
    repeat (go_quiet (fail); try go_wp2)
    go_ret
    exact ⟨by first | rfl | (simp; done) | (simp [*]; done), TD⟩
def spec_SameMan.f (k : Nat) (a0_0 : Int) (a0_1 : Int) (a0_2 : Int) (l0_3 : List (S75)) (a1_0 : Int) (a1_1 : Int) (a1_2 : Int) (l1_3 : List (S75)) : Option (Bool) := if a0_0 = a1_0 then (if a0_1 = a1_1 then (if a0_2 = a1_2 then ((spec_l6SameSums.f k l0_3 l1_3).bind fun t655 => (some t655)) else (some false)) else (some false)) else (some false)
theorem spec_SameMan.mono : ∀ a0 a1 a2 a3 a4 a5 a6 a7 k, LeO (spec_SameMan.f k a0 a1 a2 a3 a4 a5 a6 a7) (spec_SameMan.f (k + 1) a0 a1 a2 a3 a4 a5 a6 a7) := by
  intro a0 a1 a2 a3 a4 a5 a6 a7 k;have m0_ := @spec_l6SameSums.mono;unfold spec_SameMan.f;exact LM
theorem Yq18_0 {p : Prop} (h : p := by
 obtain rfl := oI H;go_enter Tryz.func49, Tryz.ntmps49;go_wp2_with (first | ((with_reducible refine gate_dst (N := 2) rfl ?_); refine gBx 2 #[.int .i64 ad, .int .i64 ac, .int .i64 af, .slice ai ag.length ak] 26 ?_; intro am hg wq1 hbox hb; have BKq1 := aM (hbox); have GWq1 := gW HB hg; have GEq1 := gW HB hg; replace HB := bS HB hb; clear hb hbox hg) | ((with_reducible refine gate_dst (N := 3) rfl ?_); refine gBx 3 #[.int .i64 aa, .int .i64 ae, .int .i64 ab, .slice al ah.length aj] 26 ?_; intro gbq2 hg wq2 hbox hb; have BKq2 := aM (hbox); have GWq2 := gW HB hg; have GEq2 := gW HB hg; obtain ⟨NBq1, NBq2⟩ := nB BKq1 hg; replace BKq1 := mB BKq1 hb; replace HB := bS HB hb; clear hb hbox hg; obtain ⟨hnbq1, hncq1⟩ := oB NBq1; obtain ⟨hczq1, hczq2, hczq3, hczq4⟩ := cz4 BKq1.out; obtain ⟨hfzq1, hfzq2, hfzq3, hfzq4⟩ := fz4 BKq1.out; obtain ⟨hczq5, hczq6, hczq7, hczq8⟩ := cz4 BKq2.out; obtain ⟨hfzq5, hfzq6, hfzq7, hfzq8⟩ := fz4 BKq2.out))
 go_ret
 exact ⟨TE, TB⟩) : p := h
theorem spec_SameMan.calls {k : Nat} {ad : Int} {ac : Int} {af : Int} {ai : Option Addr} {ak : Nat} {ag : List (S75)} {aa : Int} {ae : Int} {ab : Int} {al : Option Addr} {aj : Nat} {ah : List (S75)} {r : Bool} {w : World} (ap : Kd.C k75 w ai ag.length ag) (an : ag.length ≤ ak) (ao : Kd.C k75 w al ah.length ah) (aq : ah.length ≤ aj) (h : spec_SameMan.f k ad ac af ag aa ae ab ah = some r) :
  Calls Tryz.prog 49 #[.agg #[.int .i64 ad, .int .i64 ac, .int .i64 af, .slice ai ag.length ak], .agg #[.int .i64 aa, .int .i64 ae, .int .i64 ab, .slice al ah.length aj]] w fun e w' => e = .returned (.bool r) ∧ Below w.heap.size w w' := by
 have huq1 := Tryz.underlying26;have HRq1 := aM ap;have HCq1 := aM an;clear ap an;have HRq2 := aM ao;have HCq2 := aM aq;clear ao aq;have HB := aM (Below.refl w.heap.size w);have H := h;clear h;unfold spec_SameMan.f at H
 by_cases c3 : ad = aa
 ·rw [if_pos c3] at H;have c3b0 : (ad == aa) = true := beq_iff_eq.mpr c3;have c3b1 : (ad != aa) = false := bne_eq_false_iff_eq.mpr c3;clear c3
  by_cases c4 : ac = ae
  ·rw [if_pos c4] at H;have c4b0 : (ac == ae) = true := beq_iff_eq.mpr c4;have cq1 : (ac != ae) = false := bne_eq_false_iff_eq.mpr c4;clear c4
   by_cases c5 : af = ab
   ·rw [if_pos c5] at H;have c5b0 : (af == ab) = true := beq_iff_eq.mpr c5;have cq2 : (af != ab) = false := bne_eq_false_iff_eq.mpr c5;clear c5;replace H := bE H;obtain ⟨t655, Aq1, H⟩ := H;obtain rfl := oI H;go_enter Tryz.func49, Tryz.ntmps49;go_wp2_with (first | ((with_reducible refine gate_dst (N := 2) rfl ?_); refine gBx 2 #[.int .i64 ad, .int .i64 ac, .int .i64 af, .slice ai ag.length ak] 26 ?_; intro am hg w7 hbox hb; have BKq1 := aM (hbox); have GWq1 := gW HB hg; have GEq1 := gW HB hg; replace HB := bS HB hb; clear hb hbox hg) | ((with_reducible refine gate_dst (N := 3) rfl ?_); refine gBx 3 #[.int .i64 aa, .int .i64 ae, .int .i64 ab, .slice al ah.length aj] 26 ?_; intro gbq2 hg w8 hbox hb; have BKq2 := aM (hbox); have GWq2 := gW HB hg; have GEq2 := gW HB hg; obtain ⟨NBq1, NBq2⟩ := nB BKq1 hg; replace BKq1 := mB BKq1 hb; replace HB := bS HB hb; clear hb hbox hg; obtain ⟨hnbq1, hncq1⟩ := oB NBq1; obtain ⟨hczq1, hczq2, hczq3, hczq4⟩ := cz4 BKq1.out; obtain ⟨hfzq1, hfzq2, hfzq3, hfzq4⟩ := fz4 BKq1.out; obtain ⟨hczq5, hczq6, hczq7, hczq8⟩ := cz4 BKq2.out; obtain ⟨hfzq5, hfzq6, hfzq7, hfzq8⟩ := fz4 BKq2.out) | (go_at_call 76; (with_reducible refine (spec_l6SameSums.calls ?side1 ?side2 ?side3 ?side4 Aq1.out).mono ?_); (case side1 => have X_ := (Kd.C_below HRq1.out HB.out); exact TC); (case side2 => exact HCq1.out); (case side3 => have X_ := (Kd.C_below HRq2.out HB.out); exact TC); (case side4 => exact HCq2.out); rintro e w' ⟨rfl, ⟨nd, rfl⟩⟩))
    go_ret
    exact ⟨TE, TB⟩
   ·rw [if_neg c5] at H;have c5b0 : (af == ab) = false := beq_eq_false_iff_ne.mpr c5;have cq2 : (af != ab) = true := bne_iff_ne.mpr c5;exact Yq18_0
  ·rw [if_neg c4] at H;have c4b0 : (ac == ae) = false := beq_eq_false_iff_ne.mpr c4;have cq1 : (ac != ae) = true := bne_iff_ne.mpr c4;exact Yq18_0
 ·rw [if_neg c3] at H;have c3b0 : (ad == aa) = false := beq_eq_false_iff_ne.mpr c3;have c3b1 : (ad != aa) = true := bne_iff_ne.mpr c3;exact Yq18_0
end Go.Proofs.YtanpaipapcjpoaaGreatDoor.Q
