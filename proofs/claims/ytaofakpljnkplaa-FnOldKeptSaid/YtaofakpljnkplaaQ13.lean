/- Functions of the program as plain Lean functions, and that a call of each comes to what its function tells. Written by a program of this seat. -/
import Derived.Test.YtaofakpljnkplaaQ0
namespace Go.Proofs.Ytaofakpljnkplaa.Q
open Go.RowKit Go.Proofs.YtaofakpljnkplaaW.PrintWords Go.Proofs.YtaofakpljnkplaaW.PrintLast Go.Proofs.YtaofakpljnkplaaW.PrintMore
attribute [local go_sem] min2_int min_two
set_option linter.unusedVariables false
set_option linter.unusedSimpArgs false

def laws_same.l0 : Nat → List Int → List Int → Int → Option (Bool)
  | 0, _, _, _ => none
  | k + 1, x0, x1, x5 => if x5 < (x0.length : Int) then (if 0 ≤ x5 then (if x5 < (x1.length : Int) then (if (rd x0 x5) = (rd x1 x5) then (laws_same.l0 k x0 x1 (wrap64 (x5 + 1))) else (some false)) else (none)) else (none)) else (some true)
def laws_same.f (k : Nat) (l0 : List Int) (l1 : List Int) : Option (Bool) := if (l0.length : Int) = (l1.length : Int) then (laws_same.l0 k l0 l1 0) else (some false)
theorem laws_same.mono_l : ∀ k, (∀ y0 y1 y2, LeO (laws_same.l0 k y0 y1 y2) (laws_same.l0 (k + 1) y0 y1 y2))
  | 0 => fun _ _ _ r h => by simp [laws_same.l0] at h
  | k + 1 => by
    have ih0 := laws_same.mono_l k
    · intro y0 y1 y2
      unfold laws_same.l0
      exact LM
theorem laws_same.mono : ∀ a0 a1 k, LeO (laws_same.f k a0 a1) (laws_same.f (k + 1) a0 a1) := by
  intro a0 a1 k;have ih0 := laws_same.mono_l k;unfold laws_same.f;exact LM
set_option maxHeartbeats 40000000 in
set_option maxRecDepth 100000 in
theorem laws_same.calls {k : Nat} {A0 : Option Addr} {c0 : Nat} {l0 : List Int} {A1 : Option Addr} {c1 : Nat} {l1 : List Int} {r : Bool} {w : World} (hr0 : Kd.C (Kd.int .u8) w A0 l0.length l0) (hc0 : l0.length ≤ c0) (hr1 : Kd.C (Kd.int .u8) w A1 l1.length l1) (hc1 : l1.length ≤ c1) (h : laws_same.f k l0 l1 = some r) :
    Calls Try.prog 15 #[.slice A0 l0.length c0, .slice A1 l1.length c1] w fun e w' => e = .returned (.bool r) ∧ Drawn0 w w' := by
  have HRq1 := aM hr0
  have HCq1 := aM hc0
  clear hr0 hc0
  have HRq2 := aM hr1
  have HCq2 := aM hc1
  clear hr1 hc1
  have H := h
  clear h
  unfold laws_same.f at H
  by_cases cq1 : (l0.length : Int) = (l1.length : Int)
  ·rw [if_pos cq1] at H
   have cq2 : ((l0.length : Int) == (l1.length : Int)) = true := beq_iff_eq.mpr cq1
   have cq3 : ((l0.length : Int) != (l1.length : Int)) = false := bne_eq_false_iff_eq.mpr cq1
   have cq4 : (l0.length == l1.length) = true := by first | simpa using cq1 | (simp at cq1 ⊢; omega)
   clear cq1
   have H' := aM H
   clear H
   go_enter Try.func15, Try.ntmps15
   go_wp2
   repeat (go_quiet (fail); try go_wp2)
   go_loopg [5] k (fun kq vq1 w' => ∃ (xq1 : Int), vq1 = .int .i64 xq1 ∧ Aside0 (laws_same.l0 kq l0 l1 xq1 = some r) ∧ Aside0 (kq ≤ k) ∧ Drawn0 w w')
   case atStart => exact ⟨(0), TF, H', ⟨Nat.le_refl _⟩, TD⟩
   case round =>
    clear H'
    try clear c1
    try clear cq1
    try clear cq2
    try clear cq3
    try clear cq4
    obtain ⟨xq1, rfl, HA, HKq1, ⟨mq1, rfl⟩⟩ := hrel
    cases gk with
    | zero => exact absurd HA.out (by simp [laws_same.l0])
    | succ k1 =>
     have H := HA.out
     clear HA
     simp only [laws_same.l0] at H
     by_cases cq5 : xq1 < (l0.length : Int)
     ·rw [if_pos cq5] at H
      have cq6 : decide (xq1 < (l0.length : Int)) = true := decide_eq_true cq5
      clear cq5
      replace H := ifN H
      obtain ⟨cq7, H⟩ := H
      have cq8 : decide (0 ≤ xq1) = true := decide_eq_true cq7
      clear cq7
      replace H := ifN H
      obtain ⟨cq9, H⟩ := H
      have cq10 : decide (xq1 < (l1.length : Int)) = true := decide_eq_true cq9
      clear cq9
      by_cases cq11 : (rd l0 xq1) = (rd l1 xq1)
      ·rw [if_pos cq11] at H
       have cq12 : ((rd l0 xq1) == (rd l1 xq1)) = true := beq_iff_eq.mpr cq11
       have cq13 : ((rd l0 xq1) != (rd l1 xq1)) = false := bne_eq_false_iff_eq.mpr cq11
       clear cq11
       have H' := aM H
       clear H
       have pq2 : 0 ≤ (xq1 : Int) := DT
       have qq1 : xq1 < (l0.length : Int) := DT
       obtain ⟨adq1, eq1, hxq1⟩ := Kd.at_int HRq1.out xq1 pq2 qq1
       cases eq1
       replace pq2 := eq_true pq2
       replace qq1 := eq_true qq1
       have pq3 : 0 ≤ (xq1 : Int) := DT
       have qq2 : xq1 < (l1.length : Int) := DT
       obtain ⟨adq2, eq2, hxq2⟩ := Kd.at_int HRq2.out xq1 pq3 qq2
       cases eq2
       replace pq3 := eq_true pq3
       replace qq2 := eq_true qq2
       go_wp2
       repeat (go_quiet (fail); try go_wp2)
       go_roundg k1
       case measure => have := HKq1.out; omega
       case rel => exact ⟨(wrap64 (xq1 + 1)), TF, H', ⟨by have := HKq1.out; omega⟩, TD⟩
      ·rw [if_neg cq11] at H
       have cq12 : ((rd l0 xq1) == (rd l1 xq1)) = false := beq_eq_false_iff_ne.mpr cq11
       have cq13 : ((rd l0 xq1) != (rd l1 xq1)) = true := bne_iff_ne.mpr cq11
       obtain rfl := o_I H
       have pq2 : 0 ≤ (xq1 : Int) := DT
       have qq1 : xq1 < (l0.length : Int) := DT
       obtain ⟨adq1, eq1, hxq1⟩ := Kd.at_int HRq1.out xq1 pq2 qq1
       cases eq1
       replace pq2 := eq_true pq2
       replace qq1 := eq_true qq1
       have pq3 : 0 ≤ (xq1 : Int) := DT
       have qq2 : xq1 < (l1.length : Int) := DT
       obtain ⟨adq2, eq2, hxq2⟩ := Kd.at_int HRq2.out xq1 pq3 qq2
       cases eq2
       replace pq3 := eq_true pq3
       replace qq2 := eq_true qq2
       go_wp2
       repeat (go_quiet (fail); try go_wp2)
       go_ret
       exact ⟨by first | rfl | (simp; done) | (simp [*]; done), TD⟩
     ·rw [if_neg cq5] at H
      have cq6 : decide (xq1 < (l0.length : Int)) = false := decide_eq_false cq5
      clear cq5
      obtain rfl := o_I H
      go_wp2
      repeat (go_quiet (fail); try go_wp2)
      go_ret
      exact ⟨by first | rfl | (simp; done) | (simp [*]; done), TD⟩
  ·rw [if_neg cq1] at H
   have cq2 : ((l0.length : Int) == (l1.length : Int)) = false := beq_eq_false_iff_ne.mpr cq1
   have cq3 : ((l0.length : Int) != (l1.length : Int)) = true := bne_iff_ne.mpr cq1
   have cq4 : (l0.length == l1.length) = false := by first | simpa using cq1 | (simp at cq1 ⊢; omega)
   obtain rfl := o_I H
   go_enter Try.func15, Try.ntmps15
   go_wp2
   repeat (go_quiet (fail); try go_wp2)
   go_ret
   exact ⟨by first | rfl | (simp; done) | (simp [*]; done), TD⟩

end Go.Proofs.Ytaofakpljnkplaa.Q
