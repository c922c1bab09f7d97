/- Functions of the program as plain Lean functions, and that a call of each comes to what its function tells. Written by a program of this seat. -/
import Derived.Test.YtfkndpjbkndhcaaQ0
import Derived.Test.YtfkndpjbkndhcaaQ5
namespace Go.Proofs.Ytfkndpjbkndhcaa.Q
open Go.RowKit Go.Proofs.YtfkndpjbkndhcaaW.PrintWords Go.Proofs.YtfkndpjbkndhcaaW.PrintLast Go.Proofs.YtfkndpjbkndhcaaW.PrintMore
attribute [local go_sem] max2_int min2_int max_two min_two max_three min_three max_four min_four   -- for this text's walks alone
set_option linter.unusedVariables false
set_option linter.unusedSimpArgs false

/-! ### impl_PartsIn: function 40 -/
def impl_PartsIn.l0 : Nat → Int → List Int → Int → Option (List Int)
  | 0, _, _, _ => none
  | k + 1, x0, x3, x6 => if x6 < 40 then ((impl_InSet.f x0 x6).bind fun t467 => (if t467 = true then (if x3.length < 17592186044416 then (impl_PartsIn.l0 k x0 (x3 ++ [x6]) (wrap64 (x6 + 1))) else (none)) else (impl_PartsIn.l0 k x0 x3 (wrap64 (x6 + 1))))) else (some x3)
def impl_PartsIn.f (k : Nat) (a0 : Int) : Option (List Int) := impl_PartsIn.l0 k a0 (([] : List Int)) 0
theorem impl_PartsIn.mono_l : ∀ k, (∀ y0 y1 y2, LeO (impl_PartsIn.l0 k y0 y1 y2) (impl_PartsIn.l0 (k + 1) y0 y1 y2))
  | 0 => fun _ _ _ r h => by simp [impl_PartsIn.l0] at h
  | k + 1 => by
    have ih0 := impl_PartsIn.mono_l k
    · intro y0 y1 y2
      unfold impl_PartsIn.l0
      exact LM
theorem impl_PartsIn.mono : ∀ a0 k, LeO (impl_PartsIn.f k a0) (impl_PartsIn.f (k + 1) a0) := by
  intro a0 k
  have ih0 := impl_PartsIn.mono_l k
  unfold impl_PartsIn.f
  exact LM
set_option maxHeartbeats 40000000 in
set_option maxRecDepth 100000 in
theorem impl_PartsIn.calls (k : Nat) (a0 : Int) (r : List Int) (w : World) (h : impl_PartsIn.f k a0 = some r) :
    Calls Try.prog 40 #[.int .i64 a0] w fun e w' => ∃ v0_ : Value, e = .returned (v0_) ∧ Kd.R (Kd.int .i64) 3 w' w.heap.size (fun _ => True) v0_ r ∧ Below w.heap.size w w' := by
  have HB := aM (Below.refl w.heap.size w)
  have H := h
  clear h
  unfold impl_PartsIn.f at H
  obtain ⟨y464, hy464⟩ : ∃ y_ : List Int, y_ = (([] : List Int)) := ⟨_, rfl⟩
  rw [← hy464] at H
  have Ny464 := aM hy464
  clear hy464
  have H' := aM H
  clear H
  go_enter Try.func40, Try.ntmps40
  go_wp2_with (first | ((with_reducible refine gate_dst (N := 5) rfl ?_); refine Kd.R_lit (Kd.int .i64) _ 3 ?hg (N := 5) ?hd (xs := ([] : List Int)) (inner := []) (ok := fun _ => True) (okp := fun _ => True) ?hr ?hp (fun _ hk => hk) trivial (Below.refl _ _) (Nat.le_refl _) (by simp) ?_; (case hd => rfl); (case hg => rfl); (case hr => first | (go_simp; done) | (go_simp; rfl)); (case hp => exact (Reps.none _ _)); intro v465 w2 ho3 hb hg_ hnew_; clear hg_ hnew_; (first | rw [← Ny464.out] at ho3 | (simp only [Int.reduceToNat] at ho3; rw [← Ny464.out] at ho3)); have HO466 := aM (Kd.R_lower ho3 (below_size TB)); replace HB := aM (below_step TB hb); clear hb ho3))
  go_loopg [3, 6] k (fun kq v3 v6 w' => ∃ (x3_1 : List Int) (x6_1 : Int), v6 = .int .i64 x6_1 ∧ Aside0 (impl_PartsIn.l0 kq a0 x3_1 x6_1 = some r) ∧ Aside0 (kq ≤ k) ∧ Aside0 (Kd.R (Kd.int .i64) 3 w' w.heap.size (fun _ => True) v3 x3_1) ∧ Aside0 (Below w.heap.size w w'))
  case atStart => exact ⟨(y464), (0), (by first | rfl | (simp; done) | (simp [*]; done)), H', ⟨Nat.le_refl _⟩, ⟨by have X_ := HO466.out; exact TR⟩, ⟨TB⟩⟩
  case round =>
    clear H'
    try clear p2
    obtain ⟨x3_1, x6_1, rfl, HA, HK1, HO_3, HB⟩ := hrel
    cases gk with
    | zero => exact absurd HA.out (by simp [impl_PartsIn.l0])
    | succ k1 =>
      have H := HA.out
      clear HA
      simp only [impl_PartsIn.l0] at H
      by_cases c4 : x6_1 < 40
      · rw [if_pos c4] at H
        have c4b0 : decide (x6_1 < 40) = true := decide_eq_true c4
        clear c4
        replace H := bE H
        obtain ⟨t467, A5, H⟩ := H
        by_cases c6 : t467 = true
        · subst c6
          replace H := ifT H
          replace H := ifN H
          obtain ⟨c7, H⟩ := H
          have LMc7 := aM c7
          clear c7
          obtain ⟨y468, hy468⟩ : ∃ y_ : List Int, y_ = (x3_1 ++ [x6_1]) := ⟨_, rfl⟩
          rw [← hy468] at H
          have Ny468 := aM hy468
          clear hy468
          have H' := aM H
          clear H
          go_wp2_with (first | ((with_reducible refine gate_callee (f := 37) rfl ?_); refine gL (some 11) Try.func37 #[.int .i64 a0, .int .i64 x6_1] ?_; (with_reducible refine (impl_InSet.calls a0 x6_1 true _ A5.out).mono ?_); rintro e w' ⟨rfl, ⟨nd, rfl⟩⟩; refine ⟨_, rfl, ?_⟩) | ((with_reducible refine gate_builtin (b := .append) (xs := #[.tmp 12, .tmp 14]) rfl ?_); at_builtin; refine Kd.R_append (Kd.int .i64) (w0 := w) w.heap.size rfl (.tmp 12) (.tmp 14) 45 3 (.int .i64 0) 8 rfl Try.underlying45 info3 rfl (by decide) (by omega) u3 x3_1 x6_1 [.int .i64 x6_1] (fun _ => True) (fun _ => False) rfl rfl ?aP (fun _ hk => hk.elim) ?aF ?aO ?aB ?aS ?aL ?_; (case aP => exact rfl); (case aB => exact TB); (case aF => exact (fun _ _ => trivial)); (case aO => exact (by have X_ := HO_3.out; exact TR)); (case aS => exact (below_size TB)); (case aL => have := LMc7.out; omega); intro v469 w8 ho hb hg hat; rw [← Ny468.out] at ho; have HO470 := aM (ho); replace HB := aM (hb); clear HO_3; clear ho hb hg hat))
          go_roundg k1
          case measure => have := HK1.out; omega
          case rel => exact ⟨(y468), (wrap64 (x6_1 + 1)), (by first | rfl | (simp; done) | (simp [*]; done)), H', ⟨by have := HK1.out; omega⟩, ⟨by have X_ := HO470.out; exact TR⟩, ⟨TB⟩⟩
        · replace c6 := Bool.eq_false_iff.mpr c6
          subst c6
          replace H := ifF H
          have H' := aM H
          clear H
          go_wp2_with (first | ((with_reducible refine gate_callee (f := 37) rfl ?_); refine gL (some 11) Try.func37 #[.int .i64 a0, .int .i64 x6_1] ?_; (with_reducible refine (impl_InSet.calls a0 x6_1 false _ A5.out).mono ?_); rintro e w' ⟨rfl, ⟨nd, rfl⟩⟩; refine ⟨_, rfl, ?_⟩))
          go_roundg k1
          case measure => have := HK1.out; omega
          case rel => exact ⟨(x3_1), (wrap64 (x6_1 + 1)), (by first | rfl | (simp; done) | (simp [*]; done)), H', ⟨by have := HK1.out; omega⟩, ⟨by have X_ := HO_3.out; exact TR⟩, ⟨TB⟩⟩
      · rw [if_neg c4] at H
        have c4b0 : decide (x6_1 < 40) = false := decide_eq_false c4
        clear c4
        obtain rfl := Option.some.inj H
        go_wp2
        go_ret
        exact ⟨_, by first | rfl | (simp [errW_none, errW_some] <;> rfl) | (simp [*, errW_none, errW_some] <;> rfl), by have X_ := HO_3.out; exact TR, TB⟩

end Go.Proofs.Ytfkndpjbkndhcaa.Q
