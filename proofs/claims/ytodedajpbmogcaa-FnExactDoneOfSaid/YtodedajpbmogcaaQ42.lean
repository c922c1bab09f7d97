/- Functions of the program as plain Lean functions, and that a call of each comes to what its function tells. Written by a program of this seat. -/
import Derived.Test.YtodedajpbmogcaaQ0
import Derived.Test.YtodedajpbmogcaaQ37
namespace Go.Proofs.Ytodedajpbmogcaa.Q
open Go.RowKit Go.Proofs.YtodedajpbmogcaaW.PrintWords Go.Proofs.YtodedajpbmogcaaW.PrintLast Go.Proofs.YtodedajpbmogcaaW.PrintMore
attribute [local go_sem] max2_int min2_int max_two min_two max_three min_three max_four min_four   -- for this text's walks alone
set_option linter.unusedVariables false
set_option linter.unusedSimpArgs false

/-! ### impl_DoneOf: function 34 -/
set_option maxHeartbeats 800000 in
theorem impl_DoneOf.c1 (x : S58) (w : World) :
    Calls Try.prog 62 #[.agg #[.int .i64 x.f0, .int .i64 x.f1, .int .i64 x.f2, .int .i64 x.f3, .int .i64 x.f4]] w fun e w' => e = .returned (.int .i64 x.f2) ∧ Below w.heap.size w w' := by
  go_enter Try.func62, Try.ntmps62
  go_wp2
  go_ret
  exact ⟨rfl, below_alloc (Below.refl _ _) _⟩

def impl_DoneOf.l0 : Nat → List S58 → Int → Int → Option Int
  | 0, _, _, _ => none
  | k + 1, x0, x3, x4 => if x4 < (x0.length : Int) then (if 0 ≤ x4 then ((impl_SetOk.f (rd_T58 x0 x4).f2).bind fun t => (if t = true then (impl_DoneOf.l0 k x0 (Go.bits .or .i64 x3 (rd_T58 x0 x4).f2) (wrap64 (x4 + 1))) else (impl_DoneOf.l0 k x0 x3 (wrap64 (x4 + 1))))) else (none)) else (some x3)
def impl_DoneOf.f (k : Nat) (l0 : List S58) : Option Int := impl_DoneOf.l0 k l0 0 0
theorem impl_DoneOf.mono : ∀ a0 k, LeO (impl_DoneOf.f k a0) (impl_DoneOf.f (k + 1) a0) := by
  have key : ∀ k x0 x1 x5, LeO (impl_DoneOf.l0 k x0 x1 x5) (impl_DoneOf.l0 (k + 1) x0 x1 x5) := by
    intro k
    induction k with
    | zero => intro _ _ _ r h; simp [impl_DoneOf.l0] at h
    | succ k ih =>
      intro x0 x1 x5
      unfold impl_DoneOf.l0
      exact LeO.ite (LeO.ite (LeO.bind (LeO.refl _) (fun t => LeO.ite (ih _ _ _) (ih _ _ _))) (LeO.none _)) (LeO.refl _)
  intro a0 k
  exact key k a0 0 0
set_option maxHeartbeats 8000000 in
set_option maxRecDepth 100000 in
theorem impl_DoneOf.c0 (k : Nat) (A0 : Option Addr) (c0 : Nat) (l0 : List (S58)) (r : Int) (w : World) (hr0 : Kd.C k58 w A0 l0.length l0) (hc0 : l0.length ≤ c0) (h : impl_DoneOf.l0 k l0 0 0 = some r) :
    Calls Try.prog 61 #[.slice A0 l0.length c0, .func (.func 62) #[] #[]] w fun e w' => e = .returned (.int .i64 r) ∧ Below w.heap.size w w' := by
  have HR0 := Aside0.mk hr0
  have HC0 := Aside0.mk hc0
  clear hr0 hc0
  have H' := Aside0.mk h
  clear h
  go_enter Try.func61, Try.ntmps61
  go_wp2
  go_loopg [5, 7, 8, 11] k (fun kq v5 v7 v8 v11 w' => ∃ (x5 x11 : Int), v5 = .int .i64 x5 ∧ v11 = .int .i64 x11 ∧ Aside0 (impl_DoneOf.l0 kq l0 x5 x11 = some r) ∧ Aside0 (kq ≤ k) ∧ Aside0 (Below w.heap.size w w'))
  case atStart => exact ⟨0, 0, rfl, rfl, H', ⟨Nat.le_refl _⟩, ⟨Below.refl _ _⟩⟩
  case round =>
    clear H'
    obtain ⟨x5, x11, rfl, rfl, HA, HK1, HB⟩ := hrel
    cases gk with
    | zero => exact absurd HA.out (by simp [impl_DoneOf.l0])
    | succ k1 =>
      have H := HA.out
      clear HA
      simp only [impl_DoneOf.l0] at H
      by_cases c3 : x11 < (l0.length : Int)
      · rw [if_pos c3] at H
        have c3b0 : decide (x11 < (l0.length : Int)) = true := decide_eq_true c3
        by_cases c4 : 0 ≤ x11
        · rw [if_pos c4] at H
          obtain ⟨ad, e, hx0, hx1, hx2, hx3, hx4⟩ := at_T58 (Kd.C_below HR0.out HB.out) x11 c4 c3
          cases e
          replace c4 := eq_true c4
          replace c3 := eq_true c3
          obtain ⟨t, A0, H⟩ := Option.bind_eq_some_iff.mp H
          have A1 := Aside0.mk A0
          clear A0
          cases t with
          | true =>
            have H' := Aside0.mk (show impl_DoneOf.l0 k1 l0 (Go.bits .or .i64 x5 (rd_T58 l0 x11).f2) (wrap64 (x11 + 1)) = some r from H)
            clear H
            go_wp2_with (first | (go_at_call 62; refine (impl_DoneOf.c1 (rd_T58 l0 x11) _).mono ?_; rintro e w1 ⟨rfl, hb⟩) | (go_at_call 60; refine (impl_SetOk.calls _ true _ A1.out).mono ?_; rintro e w2 ⟨rfl, ⟨nd, rfl⟩⟩))
            go_roundg k1
            case measure => have := HK1.out; omega
            case rel => exact ⟨_, _, rfl, rfl, H', ⟨by have := HK1.out; omega⟩, ⟨pw_below_drewN (below_step (below_alloc HB.out _) hb) _⟩⟩
          | false =>
            have H' := Aside0.mk (show impl_DoneOf.l0 k1 l0 x5 (wrap64 (x11 + 1)) = some r from H)
            clear H
            go_wp2_with (first | (go_at_call 62; refine (impl_DoneOf.c1 (rd_T58 l0 x11) _).mono ?_; rintro e w1 ⟨rfl, hb⟩) | (go_at_call 60; refine (impl_SetOk.calls _ false _ A1.out).mono ?_; rintro e w2 ⟨rfl, ⟨nd, rfl⟩⟩))
            go_roundg k1
            case measure => have := HK1.out; omega
            case rel => exact ⟨_, _, rfl, rfl, H', ⟨by have := HK1.out; omega⟩, ⟨pw_below_drewN (below_step (below_alloc HB.out _) hb) _⟩⟩
        · rw [if_neg c4] at H
          exact absurd H (by simp)
      · rw [if_neg c3] at H
        have c3b0 : decide (x11 < (l0.length : Int)) = false := decide_eq_false c3
        clear c3
        obtain rfl := Option.some.inj H
        go_wp2
        go_ret
        exact ⟨rfl, HB.out⟩
set_option maxHeartbeats 800000 in
theorem impl_DoneOf.calls (k : Nat) (A0 : Option Addr) (c0 : Nat) (l0 : List (S58)) (r : Int) (w : World) (hr0 : Kd.C k58 w A0 l0.length l0) (hc0 : l0.length ≤ c0) (h : impl_DoneOf.f k l0 = some r) :
    Calls Try.prog 34 #[.slice A0 l0.length c0] w fun e w' => e = .returned (.int .i64 r) ∧ Below w.heap.size w w' := by
  have HR0 := Aside0.mk hr0
  have HC0 := Aside0.mk hc0
  clear hr0 hc0
  have H' := Aside0.mk h
  clear h
  go_enter Try.func34, Try.ntmps34
  go_wp2_with (go_at_call 61; refine (impl_DoneOf.c0 k A0 c0 l0 r _ HR0.out HC0.out H'.out).mono ?_; rintro e w1 ⟨rfl, hb⟩)
  go_ret
  exact ⟨rfl, hb⟩

end Go.Proofs.Ytodedajpbmogcaa.Q
