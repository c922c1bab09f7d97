/- Functions of the program as plain Lean functions, and that a call of each comes to what its function tells. Written by a program of this seat. -/
import Derived.Test.YtnoplippaiblcaaQ0
namespace Go.Proofs.Ytnoplippaiblcaa.Q
open Go.RowKit Go.Proofs.YtnoplippaiblcaaW.PrintWords Go.Proofs.YtnoplippaiblcaaW.PrintLast Go.Proofs.YtnoplippaiblcaaW.PrintMore
attribute [local go_sem] max2_int min2_int max_two min_two max_three min_three max_four min_four   -- for this text's walks alone
set_option linter.unusedVariables false
set_option linter.unusedSimpArgs false

/-! ### spec_l8Zero: function 60 -/
def spec_l8Zero.l0 : Nat → List Int → Int → Option (Bool)
  | 0, _, _ => none
  | k + 1, x0, x3 => if x3 < (x0.length : Int) then (if 0 ≤ x3 then (if (rd x0 x3) = 0 then (spec_l8Zero.l0 k x0 (wrap64 (x3 + 1))) else (some false)) else (none)) else (some true)
def spec_l8Zero.f (k : Nat) (l0 : List Int) : Option (Bool) := spec_l8Zero.l0 k l0 0
theorem spec_l8Zero.mono_l : ∀ k, (∀ y0 y1, LeO (spec_l8Zero.l0 k y0 y1) (spec_l8Zero.l0 (k + 1) y0 y1))
  | 0 => fun _ _ r h => by simp [spec_l8Zero.l0] at h
  | k + 1 => by
    have ih0 := spec_l8Zero.mono_l k
    · intro y0 y1
      unfold spec_l8Zero.l0
      exact LM
theorem spec_l8Zero.mono : ∀ a0 k, LeO (spec_l8Zero.f k a0) (spec_l8Zero.f (k + 1) a0) := by
  intro a0 k
  have ih0 := spec_l8Zero.mono_l k
  unfold spec_l8Zero.f
  exact LM
set_option maxHeartbeats 40000000 in
set_option maxRecDepth 100000 in
theorem spec_l8Zero.calls (k : Nat) (A0 : Option Addr) (c0 : Nat) (l0 : List Int) (r : Bool) (w : World) (hr0 : Kd.C (Kd.int .u8) w A0 l0.length l0) (hc0 : l0.length ≤ c0) (h : spec_l8Zero.f k l0 = some r) :
    Calls Try.prog 60 #[.slice A0 l0.length c0] w fun e w' => e = .returned (.bool r) ∧ Drawn0 w w' := by
  have HR0 := aM hr0
  have HC0 := aM hc0
  clear hr0 hc0
  have H := h
  clear h
  unfold spec_l8Zero.f at H
  have H' := aM H
  clear H
  go_enter Try.func60, Try.ntmps60
  go_wp2
  go_loopg [3] k (fun kq v3 w' => ∃ (x3_1 : Int), v3 = .int .i64 x3_1 ∧ Aside0 (spec_l8Zero.l0 kq l0 x3_1 = some r) ∧ Aside0 (kq ≤ k) ∧ Drawn0 w w')
  case atStart => exact ⟨(0), (by first | rfl | (simp; done) | (simp [*]; done)), H', ⟨Nat.le_refl _⟩, TD⟩
  case round =>
    clear H'
    obtain ⟨x3_1, rfl, HA, HK1, ⟨m1, rfl⟩⟩ := hrel
    cases gk with
    | zero => exact absurd HA.out (by simp [spec_l8Zero.l0])
    | succ k1 =>
      have H := HA.out
      clear HA
      simp only [spec_l8Zero.l0] at H
      by_cases c2 : x3_1 < (l0.length : Int)
      · rw [if_pos c2] at H
        have c2b0 : decide (x3_1 < (l0.length : Int)) = true := decide_eq_true c2
        clear c2
        replace H := ifN H
        obtain ⟨c3, H⟩ := H
        have c3b0 : decide (0 ≤ x3_1) = true := decide_eq_true c3
        clear c3
        by_cases c4 : (rd l0 x3_1) = 0
        · rw [if_pos c4] at H
          have c4b0 : ((rd l0 x3_1) == 0) = true := beq_iff_eq.mpr c4
          have c4b1 : ((rd l0 x3_1) != 0) = false := bne_eq_false_iff_eq.mpr c4
          clear c4
          have H' := aM H
          clear H
          have p493 : 0 ≤ (x3_1 : Int) := DT
          have q493 : x3_1 < (l0.length : Int) := DT
          obtain ⟨ad493, e493, hx493_0⟩ := Kd.at_int HR0.out x3_1 p493 q493
          cases e493
          replace p493 := eq_true p493
          replace q493 := eq_true q493
          go_wp2
          go_roundg k1
          case measure => have := HK1.out; omega
          case rel => exact ⟨(wrap64 (x3_1 + 1)), (by first | rfl | (simp; done) | (simp [*]; done)), H', ⟨by have := HK1.out; omega⟩, TD⟩
        · rw [if_neg c4] at H
          have c4b0 : ((rd l0 x3_1) == 0) = false := beq_eq_false_iff_ne.mpr c4
          have c4b1 : ((rd l0 x3_1) != 0) = true := bne_iff_ne.mpr c4
          obtain rfl := Option.some.inj H
          have p493 : 0 ≤ (x3_1 : Int) := DT
          have q493 : x3_1 < (l0.length : Int) := DT
          obtain ⟨ad493, e493, hx493_0⟩ := Kd.at_int HR0.out x3_1 p493 q493
          cases e493
          replace p493 := eq_true p493
          replace q493 := eq_true q493
          go_wp2
          go_ret
          exact ⟨by first | rfl | (simp; done) | (simp [*]; done), TD⟩
      · rw [if_neg c2] at H
        have c2b0 : decide (x3_1 < (l0.length : Int)) = false := decide_eq_false c2
        clear c2
        obtain rfl := Option.some.inj H
        go_wp2
        go_ret
        exact ⟨by first | rfl | (simp; done) | (simp [*]; done), TD⟩

end Go.Proofs.Ytnoplippaiblcaa.Q
