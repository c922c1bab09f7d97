/- Functions of the program as plain Lean functions, and that a call of each comes to what its function tells. Written by a program of this seat. -/
import Derived.Test.YtkfnhbpjphjckaaQ0
namespace Go.Proofs.Ytkfnhbpjphjckaa.Q
open Go.RowKit Go.Proofs.YtkfnhbpjphjckaaW.PrintWords Go.Proofs.YtkfnhbpjphjckaaW.PrintLast Go.Proofs.YtkfnhbpjphjckaaW.PrintMore
attribute [local go_sem] max2_int min2_int max_two min_two max_three min_three max_four min_four   -- for this text's walks alone
set_option linter.unusedVariables false
set_option linter.unusedSimpArgs false

/-! ### impl_AgeAll: function 14 -/
def impl_AgeAll.l0 : Nat → Int → List (S77) → List (S77) → Int → Int → Option ((List (S77)))
  | 0, _, _, _, _, _ => none
  | k + 1, x1, x5, x9, x10, x11 => if x11 < x10 then (if 0 ≤ x11 then (if x11 < (x9.length : Int) then (if ((rd_T77 x9 x11).f3) < x1 then (if x5.length < 3518437208883 then (impl_AgeAll.l0 k x1 (x5 ++ [(⟨(rd_T77 x9 x11).f0, (rd_T77 x9 x11).f1, (rd_T77 x9 x11).f2, wrap64 (((rd_T77 x9 x11).f3) + 1), 0⟩ : S77)]) x9 x10 (wrap64 (x11 + 1))) else (none)) else (impl_AgeAll.l0 k x1 x5 x9 x10 (wrap64 (x11 + 1)))) else (none)) else (none)) else (some x5)
def impl_AgeAll.f (k : Nat) (l0 : List (S77)) (a1 : Int) : Option ((List (S77))) := impl_AgeAll.l0 k a1 (([] : List (S77))) l0 (l0.length : Int) 0
theorem impl_AgeAll.mono : ∀ a0 a1 k, LeO (impl_AgeAll.f k a0 a1) (impl_AgeAll.f (k + 1) a0 a1) := by
  have key : ∀ k x1 x5 x9 x10 x11, LeO (impl_AgeAll.l0 k x1 x5 x9 x10 x11) (impl_AgeAll.l0 (k + 1) x1 x5 x9 x10 x11) := by
    intro k
    induction k with
    | zero => intro _ _ _ _ _ r h; simp [impl_AgeAll.l0] at h
    | succ k ih =>
      intro x1 x5 x9 x10 x11
      unfold impl_AgeAll.l0
      exact LeO.ite (LeO.ite (LeO.ite (LeO.ite (LeO.ite (ih _ _ _ _ _) (LeO.none _)) (ih _ _ _ _ _)) (LeO.none _)) (LeO.none _)) (LeO.refl _)
  intro a0 a1 k
  exact key k _ _ _ _ _
set_option maxHeartbeats 4000000 in
set_option maxRecDepth 100000 in
theorem impl_AgeAll.calls (k : Nat) (A0 : Option Addr) (c0 : Nat) (l0 : List (S77)) (a1 : Int) (r : List (S77)) (w : World) (hr0 : Kd.C k77 w A0 l0.length l0) (hc0 : l0.length ≤ c0) (h : impl_AgeAll.f k l0 a1 = some r) :
    Calls Try.prog 14 #[.slice A0 l0.length c0, .int .i64 a1] w fun e w' => ∃ v0_ : Value, e = .returned (v0_) ∧ Kd.R k77 77 w' w.heap.size (fun _ => True) v0_ r ∧ Below w.heap.size w w' := by
  have HR0 := Aside0.mk hr0
  have HC0 := Aside0.mk hc0
  clear hr0 hc0
  have HB := Aside0.mk (Below.refl w.heap.size w)
  have H' := Aside0.mk (show impl_AgeAll.l0 k a1 (([] : List (S77))) l0 (l0.length : Int) 0 = some r from h)
  clear h
  go_enter Try.func14, Try.ntmps14
  go_wp2_with ((with_reducible refine gate_dst (N := 8) rfl ?_); refine Kd.R_lit k77 _ 77 ?hg (N := 8) ?hd (xs := ([] : List S77)) (inner := []) (ok := fun _ => True) (okp := fun _ => True) ?hr ?hp (fun _ hk => hk) trivial (Below.refl _ _) (Nat.le_refl _) (by simp) ?_; (case hd => rfl); (case hg => rfl); (case hr => first | (go_simp; done) | (go_simp; rfl)); (case hp => exact (Reps.none _ _)); intro v178 w4 ho5 hb hg_ hnew_; clear hg_ hnew_; have HO := Aside0.mk ho5; have HB' := Aside0.mk (below_step HB.out hb); clear HB hb ho5)
  go_loopg [5, 7, 11] k (fun kq v5 v7 v11 w' => ∃ (x11 : Int) (x5 : List S77), v11 = .int .i64 x11 ∧ Aside0 (impl_AgeAll.l0 kq a1 x5 l0 (l0.length : Int) x11 = some r) ∧ Aside0 (kq ≤ k) ∧ Aside0 (Kd.R k77 77 w' w.heap.size (fun _ => True) v5 x5) ∧ Aside0 (Below w.heap.size w w'))
  case atStart => exact ⟨0, [], rfl, H', ⟨Nat.le_refl _⟩, HO, HB'⟩
  case round =>
    clear H' HO HB'
    obtain ⟨x11, x5, rfl, HA, HK1, HO, HB⟩ := hrel
    cases gk with
    | zero => exact absurd HA.out (by simp [impl_AgeAll.l0])
    | succ k1 =>
      have H := HA.out
      clear HA
      simp only [impl_AgeAll.l0] at H
      by_cases c3 : x11 < (l0.length : Int)
      · rw [if_pos c3] at H
        have c3b0 : decide (x11 < (l0.length : Int)) = true := decide_eq_true c3
        by_cases c4 : 0 ≤ x11
        · rw [if_pos c4, if_pos c3] at H
          obtain ⟨ad, e, hx0, hx1, hx2, hx3, hx4⟩ := at_T77 (Kd.C_below HR0.out HB.out) x11 c4 c3
          cases e
          replace c4 := eq_true c4
          replace c3 := eq_true c3
          by_cases c5 : (rd_T77 l0 x11).f3 < a1
          · rw [if_pos c5] at H
            have c5b : decide ((rd_T77 l0 x11).f3 < a1) = true := decide_eq_true c5
            clear c5
            by_cases c9 : x5.length < 3518437208883
            · rw [if_pos c9] at H
              have LM := Aside0.mk c9
              clear c9
              have H' := Aside0.mk H
              clear H
              go_wp2_with ((with_reducible refine gate_builtin (b := .append) (xs := #[.tmp 24, .tmp 26]) rfl ?_); at_builtin; refine Kd.R_append k77 (w0 := w) w.heap.size rfl (.tmp 24) (.tmp 26) 24 77 (.agg #[(.int .i64 0), (.int .i64 0), (.int .i64 0), (.int .i64 0), (.int .i64 0)]) 40 rfl Try.underlying24 info77 rfl (by decide) (by omega) _ x5 (⟨(rd_T77 l0 x11).f0, (rd_T77 l0 x11).f1, (rd_T77 l0 x11).f2, wrap64 (((rd_T77 l0 x11).f3) + 1), 0⟩ : S77) [.int .i64 ((rd_T77 l0 x11).f0), .int .i64 ((rd_T77 l0 x11).f1), .int .i64 ((rd_T77 l0 x11).f2), .int .i64 (wrap64 (((rd_T77 l0 x11).f3) + 1)), .int .i64 0] (fun _ => True) (fun _ => False) rfl (by first | (go_simp; done) | (go_simp; rfl)) ?aP (fun _ hk => hk.elim) ?aF ?aO ?aB ?aS ?aL ?_; (case aP => exact k77_mkM _ _ _ (⟨(rd_T77 l0 x11).f0, (rd_T77 l0 x11).f1, (rd_T77 l0 x11).f2, wrap64 (((rd_T77 l0 x11).f3) + 1), 0⟩ : S77)); (case aB => exact below_alloc HB.out _); (case aF => exact (fun _ _ => trivial)); (case aO => exact Kd.R_alloc HO.out _); (case aS => exact below_size (below_alloc HB.out _)); (case aL => have := LM.out; omega); intro v182 w16 ho hb hg hat; have HO' := Aside0.mk ho; have HB' := Aside0.mk hb; clear HO HB ho hb hg hat)
              go_roundg k1
              case measure => have := HK1.out; omega
              case rel => exact ⟨wrap64 (x11 + 1), _, rfl, H', ⟨by have := HK1.out; omega⟩, HO', HB'⟩
            · rw [if_neg c9] at H
              exact absurd H (by simp)
          · rw [if_neg c5] at H
            have c5b : decide ((rd_T77 l0 x11).f3 < a1) = false := decide_eq_false c5
            clear c5
            have H' := Aside0.mk H
            clear H
            go_wp2
            go_roundg k1
            case measure => have := HK1.out; omega
            case rel => exact ⟨wrap64 (x11 + 1), x5, rfl, H', ⟨by have := HK1.out; omega⟩, ⟨Kd.R_alloc HO.out _⟩, ⟨below_alloc HB.out _⟩⟩
        · rw [if_neg c4] at H
          exact absurd H (by simp)
      · rw [if_neg c3] at H
        have c3b0 : decide (x11 < (l0.length : Int)) = false := decide_eq_false c3
        clear c3
        obtain rfl := Option.some.inj H
        go_wp2
        go_ret
        exact ⟨_, rfl, HO.out, HB.out⟩

end Go.Proofs.Ytkfnhbpjphjckaa.Q
