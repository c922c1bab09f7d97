/- All nodes below one, as plain lists. No condition beyond the size that the laws ask. -/
import Derived.Test.YtkfnhbpjphjckaaQ17
import Derived.Test.YtkfnhbpjphjckaaPbTree
namespace Go.Proofs.Ytkfnhbpjphjckaa.Pb
open Go.RowKit Go.Proofs.Ytkfnhbpjphjckaa Go.Proofs.Ytkfnhbpjphjckaa.Q Go.Proofs.YtkfnhbpjphjckaaW.PrintWords Go.Proofs.YtkfnhbpjphjckaaW.PrintLast
set_option linter.unusedVariables false
set_option linter.unusedSimpArgs false

/-- The numbers below n of which p holds. -/
def those (p : Nat → Bool) (n : Nat) : List Int := iter n (fun i (s : List Int) => if p i = true then s ++ [(i : Int)] else s) []
theorem those_length (p : Nat → Bool) (n : Nat) : (those p n).length ≤ n := by
  unfold those
  induction n with
  | zero => simp [iter_zero]
  | succ n ih =>
    rw [iter_succ]
    split
    · rw [List.length_append, List.length_singleton]; omega
    · omega
def belowOf (l : List Int) (a : Int) : List Int := those (fun i => ancestor l a (i : Int)) l.length
theorem belowOf_length (l : List Int) (a : Int) : (belowOf l a).length ≤ l.length := those_length _ _
theorem specBelowOf_ev (l : List Int) (a : Int) (hl : l.length ≤ 1048576) : Ev (fun k => spec_BelowOf.f k l a) (belowOf l a) := by
  refine loop_up (fun k s i => spec_BelowOf.l0 k a s i l) l.length (fun i (s : List Int) => if ancestor l a (i : Int) = true then s ++ [(i : Int)] else s) (fun i s => s.length ≤ i) [] _ (by simp) ?_ ?_ ?_
  · intro i s hi h
    split
    · rw [List.length_append, List.length_singleton]; omega
    · omega
  · intro i s r hi hs h
    refine Ev.step (fun k => rfl) ?_
    refine ev_pos (by omega) ?_
    refine Ev.bind (specAncestor_ev l a i hl) ?_
    rw [w64 (by omega) (by omega)]
    refine ev_bool (fun hb => ev_pos (by omega) ?_) (fun hb => ?_)
    · rw [if_pos hb] at h; exact h
    · rw [if_neg (by rw [hb]; decide)] at h; exact h
  · intro hs
    refine Ev.step (fun k => rfl) ?_
    exact ev_neg (by omega) ev_some
theorem implBelowOf_ev (l : List Int) (a : Int) (hl : l.length ≤ 1048576) : Ev (fun k => impl_BelowOf.f k l a) (belowOf l a) := by
  -- the rounds of the asking and those of the loop are one number: from enough rounds on each asking answers
  have hall : ∃ K, ∀ k, K ≤ k → ∀ i : Nat, i < l.length → impl_Ancestor.f k l a (i : Int) = some (ancestor l a (i : Int)) := by
    have : ∀ n : Nat, ∃ K, ∀ k, K ≤ k → ∀ i : Nat, i < n → impl_Ancestor.f k l a (i : Int) = some (ancestor l a (i : Int)) := by
      intro n
      induction n with
      | zero => exact ⟨0, fun k _ i hi => absurd hi (Nat.not_lt_zero _)⟩
      | succ n ih =>
        obtain ⟨K, h⟩ := ih
        obtain ⟨K', h'⟩ := implAncestor_ev l a (n : Int) hl
        refine ⟨max K K', fun k hk i hi => ?_⟩
        rcases Nat.lt_succ_iff_lt_or_eq.1 hi with h1 | rfl
        · exact h k (by omega) i h1
        · exact h' k (by omega)
    exact this _
  obtain ⟨K, hK⟩ := hall
  have key : ∀ q : Int → Option Bool, (∀ i : Nat, i < l.length → q (i : Int) = some (ancestor l a (i : Int))) → Ev (fun k => impl_BelowOf.l0 q (l.length : Int) k [] 0) (belowOf l a) := by
    intro q hq
    refine loop_up (fun k s i => impl_BelowOf.l0 q (l.length : Int) k s i) l.length (fun i (s : List Int) => if ancestor l a (i : Int) = true then s ++ [(i : Int)] else s) (fun i s => s.length ≤ i) [] _ (by simp) ?_ ?_ ?_
    · intro i s hi h
      split
      · rw [List.length_append, List.length_singleton]; omega
      · omega
    · intro i s r hi hs h
      refine Ev.step (fun k => rfl) ?_
      refine ev_pos (by omega) (ev_pos (by omega) ?_)
      refine ev_then (hq i hi) ?_
      rw [w64 (by omega) (by omega)]
      refine ev_bool (fun hb => ev_pos (by omega) ?_) (fun hb => ?_)
      · rw [if_pos hb] at h; exact h
      · rw [if_neg (by rw [hb]; decide)] at h; exact h
    · intro hs
      refine Ev.step (fun k => rfl) ?_
      exact ev_neg (by omega) ev_some
  obtain ⟨K2, h2⟩ := key (fun i => impl_Ancestor.f K l a i) (fun i hi => hK K (Nat.le_refl _) i hi)
  refine ⟨max K K2, fun k hk => ?_⟩
  have hmono : ∀ d, LeO (impl_BelowOf.l0 (fun i => impl_Ancestor.f K l a i) (l.length : Int) K2 [] 0) (impl_BelowOf.l0 (fun i => impl_Ancestor.f (K + d) l a i) (l.length : Int) (K2 + d) [] 0) := by
    intro d
    induction d with
    | zero => exact LeO.refl _
    | succ d ih => exact ih.trans (impl_BelowOf.mono_l _ _ (fun i => impl_Ancestor.mono l a i (K + d)) _ _ _ _)
  have h3 : impl_BelowOf.l0 (fun i => impl_Ancestor.f k l a i) (l.length : Int) k [] 0 = some (belowOf l a) := by
    have hq : ∀ i : Nat, i < l.length → (fun i => impl_Ancestor.f k l a i) (i : Int) = some (ancestor l a (i : Int)) := fun i hi => hK k (by omega) i hi
    obtain ⟨K3, h4⟩ := key (fun i => impl_Ancestor.f k l a i) hq
    -- the loop's own rounds: as many as with the askings' answers at K
    have same : ∀ m s i, impl_BelowOf.l0 (fun i => impl_Ancestor.f K l a i) (l.length : Int) m s i = some (belowOf l a) → impl_BelowOf.l0 (fun i => impl_Ancestor.f k l a i) (l.length : Int) m s i = some (belowOf l a) := by
      intro m
      induction m with
      | zero => intro s i h; simp [impl_BelowOf.l0] at h
      | succ m ih =>
        intro s i h
        simp only [impl_BelowOf.l0] at h ⊢
        by_cases c1 : i < (l.length : Int)
        · rw [if_pos c1] at h ⊢
          by_cases c2 : 0 ≤ i
          · rw [if_pos c2] at h ⊢
            obtain ⟨j, rfl⟩ := Int.eq_ofNat_of_zero_le c2
            have hj : j < l.length := by omega
            have e1 := hK K (Nat.le_refl _) j hj
            have e2 := hK k (by omega) j hj
            rw [e1] at h
            rw [e2]
            simp only [Option.bind_some] at h ⊢
            cases ha : ancestor l a (j : Int) with
            | true =>
              rw [ha] at h
              simp only [if_true] at h ⊢
              by_cases c3 : s.length < 17592186044416
              · rw [if_pos c3] at h ⊢; exact ih _ _ h
              · rw [if_neg c3] at h; cases h
            | false =>
              rw [ha] at h
              simp only [Bool.false_eq_true, if_false] at h ⊢
              exact ih _ _ h
          · rw [if_neg c2] at h; cases h
        · rw [if_neg c1] at h ⊢; exact h
    exact same k [] 0 (h2 k (by omega))
  exact h3
end Go.Proofs.Ytkfnhbpjphjckaa.Pb
