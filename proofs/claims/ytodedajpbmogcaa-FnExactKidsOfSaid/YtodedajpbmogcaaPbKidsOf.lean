/- The children of a node of a tree, as a plain list. No condition beyond the size that the laws ask. -/
import Derived.Test.YtodedajpbmogcaaQ57
import Derived.Test.YtodedajpbmogcaaQ59
import Derived.Test.YtodedajpbmogcaaPbTree0
namespace Go.Proofs.Ytodedajpbmogcaa.Pb
open Go.RowKit Go.Proofs.Ytodedajpbmogcaa Go.Proofs.Ytodedajpbmogcaa.Q Go.Proofs.YtodedajpbmogcaaW.PrintWords Go.Proofs.YtodedajpbmogcaaW.PrintLast
set_option linter.unusedVariables false
set_option linter.unusedSimpArgs false

/-! ### KidsOf -/
def kidsOf (l : List Int) (a : Int) : List Int := if 0 ≤ a ∧ a ≤ (l.length : Int) - 1 then iter l.length (fun i (s : List Int) => if l.getD i 0 = a then s ++ [(i : Int)] else s) [] else []
theorem iter_filter_length (l : List Int) (a : Int) (n : Nat) : (iter n (fun i (s : List Int) => if l.getD i 0 = a then s ++ [(i : Int)] else s) []).length ≤ n := by
  induction n with
  | zero => simp [iter_zero]
  | succ n ih =>
    rw [iter_succ]
    split
    · rw [List.length_append, List.length_singleton]; omega
    · omega
theorem kidsOf_length (l : List Int) (a : Int) : (kidsOf l a).length ≤ l.length := by
  unfold kidsOf
  split
  · exact iter_filter_length l a _
  · simp
theorem specKidsOf_ev (l : List Int) (a : Int) (hl : l.length ≤ 1048576) : Ev (fun k => spec_KidsOf.f k l a) (kidsOf l a) := by
  unfold kidsOf
  by_cases hn : 0 ≤ a ∧ a ≤ (l.length : Int) - 1
  · rw [if_pos hn]
    refine loop_up (fun k s i => spec_KidsOf.l0 k a s i l) l.length (fun i (s : List Int) => if l.getD i 0 = a then s ++ [(i : Int)] else s) (fun i s => s.length ≤ i) [] _ (by simp) ?_ ?_ ?_
    · intro i s hi h
      split
      · simp; omega
      · omega
    · intro i s r hi hs h
      refine Ev.step (fun k => rfl) ?_
      refine ev_pos (by omega) ?_
      refine ev_then (l1In_eq _ _ _) ?_
      rw [w64 (by omega) (by omega), decide_eq_true hn]
      refine Ev.step (f := fun k => if 0 ≤ (i : Int) then (if (i : Int) < (l.length : Int) then (if (rd l (i : Int)) = a then (if s.length < 17592186044416 then (spec_KidsOf.l0 k a (s ++ [(i : Int)]) (wrap64 ((i : Int) + 1)) l) else (none)) else (spec_KidsOf.l0 k a s (wrap64 ((i : Int) + 1)) l)) else (none)) else (none)) (fun k => rfl) ?_
      refine ev_pos (by omega) (ev_pos (by omega) ?_)
      rw [w64 (by omega) (by omega)]
      refine ev_if (fun hb => ev_pos (by omega) ?_) (fun hb => ?_)
      · rw [if_pos (by simpa [rd] using hb)] at h; exact h
      · rw [if_neg (by simpa [rd] using hb)] at h; exact h
    · intro hs
      refine Ev.step (fun k => rfl) ?_
      refine ev_neg (by omega) ?_
      exact Ev.step (f := fun _ => some _) (fun k => rfl) ev_some
  · rw [if_neg hn]
    refine Ev.step (f := fun k => if (0 : Int) < (l.length : Int) then ((spec_l1In.f a 0 (wrap64 ((l.length : Int) - 1))).bind fun t => spec_KidsOf.j1 k a [] 0 t l) else spec_KidsOf.j1 k a [] 0 false l) (fun k => rfl) ?_
    refine ev_if (fun _ => ?_) (fun _ => Ev.step (f := fun _ => some _) (fun k => rfl) ev_some)
    refine ev_then (l1In_eq _ _ _) ?_
    rw [w64 (by omega) (by omega), decide_eq_false hn]
    exact Ev.step (f := fun _ => some _) (fun k => rfl) ev_some
theorem implKidsOf_ev (l : List Int) (a : Int) (hl : l.length ≤ 1048576) : Ev (fun k => impl_KidsOf.f k l a) (kidsOf l a) := by
  have hq : ∀ i, impl_KidsOf.q l a i = some (decide (0 ≤ a ∧ a ≤ (l.length : Int) - 1) && (rd l i == a)) := fun i => by
    unfold impl_KidsOf.q
    rw [isNode_eq l a hl]
    rfl
  have key : ∀ nx : Nat → List Int → List Int, (∀ i s, nx i s = if decide (0 ≤ a ∧ a ≤ (l.length : Int) - 1) && (rd l (i : Int) == a) then s ++ [(i : Int)] else s) → Ev (fun k => impl_KidsOf.f k l a) (iter l.length nx []) := by
    intro nx hnx
    refine loop_up (fun k s i => impl_KidsOf.l0 (impl_KidsOf.q l a) (l.length : Int) k s i) l.length nx (fun i s => s.length ≤ i) [] _ (by simp) ?_ ?_ ?_
    · intro i s hi h
      rw [hnx]
      split
      · simp; omega
      · omega
    · intro i s r hi hs h
      refine Ev.step (fun k => rfl) ?_
      refine ev_pos (by omega) (ev_pos (by omega) ?_)
      refine ev_then (hq _) ?_
      rw [w64 (by omega) (by omega)]
      rw [hnx] at h
      refine ev_bool (fun hb => ev_pos (by omega) ?_) (fun hb => ?_)
      · rw [if_pos hb] at h; exact h
      · rw [if_neg (by rw [hb]; decide)] at h; exact h
    · intro hs
      refine Ev.step (fun k => rfl) ?_
      exact ev_neg (by omega) ev_some
  unfold kidsOf
  by_cases hn : 0 ≤ a ∧ a ≤ (l.length : Int) - 1
  · rw [if_pos hn]
    refine key _ (fun i s => ?_)
    rw [decide_eq_true hn]
    by_cases h : l.getD i 0 = a
    · rw [if_pos h, if_pos (by simpa [rd] using h)]
    · rw [if_neg h, if_neg (by simpa [rd] using h)]
  · rw [if_neg hn]
    refine ev_eq (key (fun _ s => s) (fun i s => ?_)) ?_
    · rw [decide_eq_false hn]; simp
    · have : ∀ n, iter n (fun (_ : Nat) (s : List Int) => s) ([] : List Int) = [] := by
        intro n
        induction n with
        | zero => rfl
        | succ n ih => rw [iter_succ, ih]
      exact this _
end Go.Proofs.Ytodedajpbmogcaa.Pb
