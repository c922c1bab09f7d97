/- Functions of the program as plain Lean functions, and that a call of each comes to what its function tells. Written by a program of this seat. -/
import Derived.Test.YtodedajpbmogcaaQ0
namespace Go.Proofs.Ytodedajpbmogcaa.Q
open Go.RowKit Go.Proofs.YtodedajpbmogcaaW.PrintWords Go.Proofs.YtodedajpbmogcaaW.PrintLast Go.Proofs.YtodedajpbmogcaaW.PrintMore
attribute [local go_sem] max2_int min2_int max_two min_two max_three min_three max_four min_four   -- for this text's walks alone
set_option linter.unusedVariables false
set_option linter.unusedSimpArgs false

/-! ### impl_KidAt: function 29 -/
set_option maxHeartbeats 800000 in
theorem impl_KidAt.c1 (x : S58) (id : Int) (B : Nat) (w : World) (hc : w.cell? ⟨B, 0, none⟩ = some (.int .i64 id)) :
    Calls Try.prog 56 #[.agg #[.int .i64 x.f0, .int .i64 x.f1, .int .i64 x.f2, .int .i64 x.f3, .int .i64 x.f4], .pointer (some ⟨B, 0, none⟩)] w fun e w' => e = .returned (.bool (x.f0 == id)) ∧ Below w.heap.size w w' := by
  have hB : B < w.heap.size := World.block_lt_of_cell? w _ hc
  have hc' : ∀ o, (w.alloc o).cell? ⟨B, 0, none⟩ = some (.int .i64 id) := fun o => (World.cell?_alloc_lt _ _ _ hB).trans hc
  go_enter Try.func56, Try.ntmps56
  go_wp2
  go_ret
  exact ⟨rfl, below_alloc (Below.refl _ _) _⟩

def impl_KidAt.l0 : Nat → List S58 → Int → Int → Option Int
  | 0, _, _, _ => none
  | k + 1, x0, x1, x5 => if x5 < (x0.length : Int) then (if 0 ≤ x5 then (if ((rd_T58 x0 x5).f0) = x1 then (some x5) else (impl_KidAt.l0 k x0 x1 (wrap64 (x5 + 1)))) else (none)) else (some (-1))
def impl_KidAt.f (k : Nat) (l0 : List S58) (a1 : Int) : Option Int := impl_KidAt.l0 k l0 a1 0
theorem impl_KidAt.mono : ∀ a0 a1 k, LeO (impl_KidAt.f k a0 a1) (impl_KidAt.f (k + 1) a0 a1) := by
  have key : ∀ k x0 x1 x5, LeO (impl_KidAt.l0 k x0 x1 x5) (impl_KidAt.l0 (k + 1) x0 x1 x5) := by
    intro k
    induction k with
    | zero => intro _ _ _ r h; simp [impl_KidAt.l0] at h
    | succ k ih =>
      intro x0 x1 x5
      unfold impl_KidAt.l0
      exact LeO.ite (LeO.ite (LeO.ite (LeO.refl _) (ih _ _ _)) (LeO.none _)) (LeO.refl _)
  intro a0 a1 k
  exact key k a0 a1 0
set_option maxHeartbeats 8000000 in
set_option maxRecDepth 100000 in
theorem impl_KidAt.c0 (k : Nat) (A0 : Option Addr) (c0 : Nat) (l0 : List (S58)) (a1 : Int) (B : Nat) (r : Int) (w : World) (hr0 : Kd.C k58 w A0 l0.length l0) (hc0 : l0.length ≤ c0) (hB : w.cell? ⟨B, 0, none⟩ = some (.int .i64 a1)) (h : impl_KidAt.l0 k l0 a1 0 = some r) :
    Calls Try.prog 55 #[.slice A0 l0.length c0, .func (.func 56) #[] #[.pointer (some ⟨B, 0, none⟩)]] w fun e w' => e = .returned (.int .i64 r) ∧ Below w.heap.size w w' := by
  have HR0 := Aside0.mk hr0
  have HC0 := Aside0.mk hc0
  have HCB := Aside0.mk hB
  clear hr0 hc0 hB
  have H' := Aside0.mk h
  clear h
  go_enter Try.func55, Try.ntmps55
  go_wp2
  go_loopg [5, 8] k (fun kq v5 v8 w' => ∃ (x8 : Int), v8 = .int .i64 x8 ∧ Aside0 (impl_KidAt.l0 kq l0 a1 x8 = some r) ∧ Aside0 (kq ≤ k) ∧ Aside0 (Below w.heap.size w w'))
  case atStart => exact ⟨0, rfl, H', ⟨Nat.le_refl _⟩, ⟨Below.refl _ _⟩⟩
  case round =>
    clear H'
    obtain ⟨x8, rfl, HA, HK1, HB⟩ := hrel
    cases gk with
    | zero => exact absurd HA.out (by simp [impl_KidAt.l0])
    | succ k1 =>
      have H := HA.out
      clear HA
      simp only [impl_KidAt.l0] at H
      by_cases c3 : x8 < (l0.length : Int)
      · rw [if_pos c3] at H
        have c3b0 : decide (x8 < (l0.length : Int)) = true := decide_eq_true c3
        by_cases c4 : 0 ≤ x8
        · rw [if_pos c4] at H
          obtain ⟨ad, e, hx0, hx1, hx2, hx3, hx4⟩ := at_T58 (Kd.C_below HR0.out HB.out) x8 c4 c3
          cases e
          replace c4 := eq_true c4
          replace c3 := eq_true c3
          have hcb := pw_cell_below HB.out HCB.out
          by_cases c5 : ((rd_T58 l0 x8).f0) = a1
          · rw [if_pos c5] at H
            obtain rfl := Option.some.inj H
            have c5b : ((rd_T58 l0 x8).f0 == a1) = true := beq_iff_eq.mpr c5
            clear c5
            go_wp2_with (go_at_call 56; refine (impl_KidAt.c1 (rd_T58 l0 x8) a1 B _ hcb).mono ?_; rintro e w1 ⟨rfl, hb⟩)
            go_ret
            exact ⟨rfl, below_step HB.out hb⟩
          · rw [if_neg c5] at H
            have c5b : ((rd_T58 l0 x8).f0 == a1) = false := beq_eq_false_iff_ne.mpr c5
            clear c5
            have H' := Aside0.mk H
            clear H
            go_wp2_with (go_at_call 56; refine (impl_KidAt.c1 (rd_T58 l0 x8) a1 B _ hcb).mono ?_; rintro e w1 ⟨rfl, hb⟩)
            go_roundg k1
            case measure => have := HK1.out; omega
            case rel => exact ⟨wrap64 (x8 + 1), rfl, H', ⟨by have := HK1.out; omega⟩, ⟨below_step HB.out hb⟩⟩
        · rw [if_neg c4] at H
          exact absurd H (by simp)
      · rw [if_neg c3] at H
        have c3b0 : decide (x8 < (l0.length : Int)) = false := decide_eq_false c3
        clear c3
        obtain rfl := Option.some.inj H
        go_wp2
        go_ret
        exact ⟨rfl, HB.out⟩
set_option maxHeartbeats 800000 in
theorem impl_KidAt.calls (k : Nat) (A0 : Option Addr) (c0 : Nat) (l0 : List (S58)) (a1 : Int) (r : Int) (w : World) (hr0 : Kd.C k58 w A0 l0.length l0) (hc0 : l0.length ≤ c0) (h : impl_KidAt.f k l0 a1 = some r) :
    Calls Try.prog 29 #[.slice A0 l0.length c0, .int .i64 a1] w fun e w' => e = .returned (.int .i64 r) ∧ Below w.heap.size w w' := by
  have HR0 := Aside0.mk hr0
  have HC0 := Aside0.mk hc0
  clear hr0 hc0
  have H' := Aside0.mk h
  clear h
  go_enter Try.func29, Try.ntmps29
  go_wp2_with (go_at_call 55; refine (impl_KidAt.c0 k A0 c0 l0 a1 w.heap.size r _ (Kd.C_alloc HR0.out _) HC0.out (by simp) H'.out).mono ?_; rintro e w1 ⟨rfl, hb⟩)
  go_ret
  exact ⟨rfl, below_step (below_alloc (Below.refl _ _) _) hb⟩

end Go.Proofs.Ytodedajpbmogcaa.Q
