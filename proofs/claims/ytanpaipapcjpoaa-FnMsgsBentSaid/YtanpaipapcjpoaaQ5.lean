/- Functions of the program as plain Lean functions, and that a call of each comes to what its function tells. Written by a program of this seat. -/
import Derived.Test.YtanpaipapcjpoaaQ0
namespace Go.Proofs.Ytanpaipapcjpoaa.Q
open Go.RowKit Go.Proofs.YtanpaipapcjpoaaW.PrintWords Go.Proofs.YtanpaipapcjpoaaW.PrintLast Go.Proofs.YtanpaipapcjpoaaW.PrintMore
attribute [local go_sem] min2_int min_two
set_option linter.unusedVariables false
set_option linter.unusedSimpArgs false

def spec_l6GetSum.l0 : Nat → List Int → Int → Int → Int → Option (Int × Int × Bool)
  | 0, _, _, _, _ => none
  | k + 1, x0, x1, x7, x8 => if x8 < 8 then (if x1 ≥ (wrap64 ((x0.length : Int) - x8)) then (some (0, 0, false)) else (if 0 ≤ (wrap64 (x1 + x8)) then (if (wrap64 (x1 + x8)) < (x0.length : Int) then (if 0 ≤ (wrap64 (7 * x8)) then (if (wrap64 (rd x0 (wrap64 (x1 + x8)))) < 128 then (if (wrap64 (rd x0 (wrap64 (x1 + x8)))) > 0 then (some (Go.bits .or .i64 x7 (shl .i64 (Go.bits .and .i64 (wrap64 (rd x0 (wrap64 (x1 + x8)))) 127) (wrap64 (7 * x8))), wrap64 ((wrap64 (x1 + x8)) + 1), true)) else (some (Go.bits .or .i64 x7 (shl .i64 (Go.bits .and .i64 (wrap64 (rd x0 (wrap64 (x1 + x8)))) 127) (wrap64 (7 * x8))), wrap64 ((wrap64 (x1 + x8)) + 1), (x8 == 0)))) else (spec_l6GetSum.l0 k x0 x1 (Go.bits .or .i64 x7 (shl .i64 (Go.bits .and .i64 (wrap64 (rd x0 (wrap64 (x1 + x8)))) 127) (wrap64 (7 * x8)))) (wrap64 (x8 + 1)))) else (none)) else (none)) else (none))) else (some (0, 0, false))
def spec_l6GetSum.f (k : Nat) (l0 : List Int) (a1 : Int) : Option (Int × Int × Bool) := spec_l6GetSum.l0 k l0 a1 0 0
theorem spec_l6GetSum.mono_l : ∀ k, (∀ y0 y1 y2 y3, LeO (spec_l6GetSum.l0 k y0 y1 y2 y3) (spec_l6GetSum.l0 (k + 1) y0 y1 y2 y3))
  | 0 => fun _ _ _ _ r h => by simp [spec_l6GetSum.l0] at h
  | k + 1 => by
    have ih0 := spec_l6GetSum.mono_l k
    · intro y0 y1 y2 y3
      unfold spec_l6GetSum.l0
      exact LM
theorem spec_l6GetSum.mono : ∀ a0 a1 k, LeO (spec_l6GetSum.f k a0 a1) (spec_l6GetSum.f (k + 1) a0 a1) := by
  intro a0 a1 k;have ih0 := spec_l6GetSum.mono_l k;unfold spec_l6GetSum.f;exact LM
set_option maxHeartbeats 40000000 in
set_option maxRecDepth 100000 in
theorem spec_l6GetSum.calls (k : Nat) (A0 : Option Addr) (c0 : Nat) (l0 : List Int) (a1 : Int) (r1 : Int) (r2 : Int) (r3 : Bool) (w : World) (hr0 : Kd.C (Kd.int .u8) w A0 l0.length l0) (hc0 : l0.length ≤ c0) (h : spec_l6GetSum.f k l0 a1 = some (r1, r2, r3)) :
    Calls Try.prog 82 #[.slice A0 l0.length c0, .int .i64 a1] w fun e w' => e = .returned (.tuple #[.int .i64 r1, .int .i64 r2, .bool r3]) ∧ Drawn0 w w' := by
  have HR0 := aM hr0
  have HC0 := aM hc0
  clear hr0 hc0
  have H := h
  clear h
  unfold spec_l6GetSum.f at H
  have H' := aM H
  clear H
  go_enter Try.func82, Try.ntmps82
  go_wp2
  go_loopg [7, 8] k (fun kq v7 v8 w' => ∃ (x7_1 : Int) (x8_1 : Int), v7 = .int .i64 x7_1 ∧ v8 = .int .i64 x8_1 ∧ Aside0 (spec_l6GetSum.l0 kq l0 a1 x7_1 x8_1 = some (r1, r2, r3)) ∧ Aside0 (kq ≤ k) ∧ Drawn0 w w')
  case atStart => exact ⟨(0), (0), TF, TF, H', ⟨Nat.le_refl _⟩, TD⟩
  case round =>
    clear H'
    try clear p2
    obtain ⟨x7_1, x8_1, rfl, rfl, HA, HK1, ⟨m1, rfl⟩⟩ := hrel
    cases gk with
    | zero => exact absurd HA.out (by simp [spec_l6GetSum.l0])
    | succ k1 =>
      have H := HA.out
      clear HA
      simp only [spec_l6GetSum.l0] at H
      by_cases c3 : x8_1 < 8
      · rw [if_pos c3] at H
        have c3b0 : decide (x8_1 < 8) = true := decide_eq_true c3
        clear c3
        by_cases c4 : a1 ≥ (wrap64 ((l0.length : Int) - x8_1))
        · rw [if_pos c4] at H
          have c4b0 : decide ((wrap64 ((l0.length : Int) - x8_1)) ≤ a1) = true := decide_eq_true c4
          clear c4
          simp only [Option.some.injEq, Prod.mk.injEq] at H
          obtain ⟨rfl, rfl, rfl⟩ := H
          go_wp2
          go_ret3
          exact ⟨by first | rfl | (simp; done) | (simp [*]; done), TD⟩
        · rw [if_neg c4] at H
          have c4b0 : decide ((wrap64 ((l0.length : Int) - x8_1)) ≤ a1) = false := decide_eq_false c4
          clear c4
          obtain ⟨ji5, hji5⟩ : ∃ j_ : Int, (wrap64 (a1 + x8_1)) = j_ := ⟨_, rfl⟩
          (first | rw [hji5] at H | simp only [hji5] at H | skip)
          have hji5w : (IntKind.i64.wrap (a1 + x8_1)) = ji5 := (i64_w _).trans hji5
          replace H := ifN H
          obtain ⟨c6, H⟩ := H
          have c6b0 : decide (0 ≤ (ji5)) = true := decide_eq_true c6
          clear c6
          replace H := ifN H
          obtain ⟨c7, H⟩ := H
          have c7b0 : decide ((ji5) < (l0.length : Int)) = true := decide_eq_true c7
          clear c7
          obtain ⟨ji8, hji8⟩ : ∃ j_ : Int, (wrap64 (7 * x8_1)) = j_ := ⟨_, rfl⟩
          (first | rw [hji8] at H | simp only [hji8] at H | skip)
          have hji8w : (IntKind.i64.wrap (7 * x8_1)) = ji8 := (i64_w _).trans hji8
          replace H := ifN H
          obtain ⟨c9, H⟩ := H
          have c9b0 := eq_true c9
          have c9b1 : decide (0 ≤ (ji8)) = true := decide_eq_true c9
          clear c9
          obtain ⟨ji10, hji10⟩ : ∃ j_ : Int, (shl .i64 (Go.bits .and .i64 (wrap64 (rd l0 (ji5))) 127) (ji8)) = j_ := ⟨_, rfl⟩
          (first | rw [hji10] at H | simp only [hji10] at H | skip)
          have hji10_ : (IntKind.i64.wrap ((Go.bits .and .i64 (wrap64 (rd l0 (ji5))) 127) * 2 ^ min (ji8).toNat 64)) = ji10 := hji10
          have hji10z : (ji8) ≤ 64 → (IntKind.i64.wrap ((Go.bits .and .i64 (wrap64 (rd l0 (ji5))) 127) * 2 ^ (ji8).toNat)) = ji10 := shl_small hji10
          have hji10y : (wrap64 ((Go.bits .and .i64 (wrap64 (rd l0 (ji5))) 127) * 2 ^ min (ji8).toNat 64)) = ji10 := (i64_w _).symm.trans hji10_
          have hji10x : (ji8) ≤ 64 → (wrap64 ((Go.bits .and .i64 (wrap64 (rd l0 (ji5))) 127) * 2 ^ (ji8).toNat)) = ji10 := fun h_ => (i64_w _).symm.trans (hji10z h_)
          by_cases c11 : (wrap64 (rd l0 (ji5))) < 128
          · rw [if_pos c11] at H
            have c11b0 : decide ((wrap64 (rd l0 (ji5))) < 128) = true := decide_eq_true c11
            clear c11
            by_cases c12 : (wrap64 (rd l0 (ji5))) > 0
            · rw [if_pos c12] at H
              have c12b0 : decide (0 < (wrap64 (rd l0 (ji5)))) = true := decide_eq_true c12
              clear c12
              simp only [Option.some.injEq, Prod.mk.injEq] at H
              obtain ⟨rfl, rfl, rfl⟩ := H
              have p145 : 0 ≤ ((ji5) : Int) := DT
              have q145 : (ji5) < (l0.length : Int) := DT
              obtain ⟨ad145, e145, hx145_0⟩ := Kd.at_int HR0.out (ji5) p145 q145
              cases e145
              replace p145 := eq_true p145
              replace q145 := eq_true q145
              go_wp2
              go_ret3
              exact ⟨by first | rfl | (simp; done) | (simp only [← hji5, ← hji8, ← hji10] <;> (first | rfl | simp)) | (simp [*]; done), TD⟩
            · rw [if_neg c12] at H
              have c12b0 : decide (0 < (wrap64 (rd l0 (ji5)))) = false := decide_eq_false c12
              clear c12
              simp only [Option.some.injEq, Prod.mk.injEq] at H
              obtain ⟨rfl, rfl, rfl⟩ := H
              have p145 : 0 ≤ ((ji5) : Int) := DT
              have q145 : (ji5) < (l0.length : Int) := DT
              obtain ⟨ad145, e145, hx145_0⟩ := Kd.at_int HR0.out (ji5) p145 q145
              cases e145
              replace p145 := eq_true p145
              replace q145 := eq_true q145
              go_wp2
              go_ret3
              exact ⟨by first | rfl | (simp; done) | (simp only [← hji5, ← hji8, ← hji10] <;> (first | rfl | simp)) | (simp [*]; done), TD⟩
          · rw [if_neg c11] at H
            have c11b0 : decide ((wrap64 (rd l0 (ji5))) < 128) = false := decide_eq_false c11
            clear c11
            have H' := aM H
            clear H
            have p145 : 0 ≤ ((ji5) : Int) := DT
            have q145 : (ji5) < (l0.length : Int) := DT
            obtain ⟨ad145, e145, hx145_0⟩ := Kd.at_int HR0.out (ji5) p145 q145
            cases e145
            replace p145 := eq_true p145
            replace q145 := eq_true q145
            go_wp2
            go_roundg k1
            case measure => have := HK1.out; omega
            case rel => exact ⟨(Go.bits .or .i64 x7_1 (ji10)), (wrap64 (x8_1 + 1)), (by first | rfl | (simp; done) | (simp only [← hji10] <;> (first | rfl | simp)) | (simp [*]; done)), TF, H', ⟨by have := HK1.out; omega⟩, TD⟩
      · rw [if_neg c3] at H
        have c3b0 : decide (x8_1 < 8) = false := decide_eq_false c3
        clear c3
        simp only [Option.some.injEq, Prod.mk.injEq] at H
        obtain ⟨rfl, rfl, rfl⟩ := H
        go_wp2
        go_ret3
        exact ⟨by first | rfl | (simp; done) | (simp [*]; done), TD⟩

end Go.Proofs.Ytanpaipapcjpoaa.Q
