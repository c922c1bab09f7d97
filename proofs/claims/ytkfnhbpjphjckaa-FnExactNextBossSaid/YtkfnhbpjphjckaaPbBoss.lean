/- Who is asked next in a tree, and all nodes below one, as plain numbers and lists. No condition beyond the size that the laws ask. -/
import Derived.Test.YtkfnhbpjphjckaaQ11
import Derived.Test.YtkfnhbpjphjckaaQ14
import Derived.Test.YtkfnhbpjphjckaaPbTree
namespace Go.Proofs.Ytkfnhbpjphjckaa.Pb
open Go.RowKit Go.Proofs.Ytkfnhbpjphjckaa Go.Proofs.Ytkfnhbpjphjckaa.Q Go.Proofs.YtkfnhbpjphjckaaW.PrintWords Go.Proofs.YtkfnhbpjphjckaaW.PrintLast
set_option linter.unusedVariables false
set_option linter.unusedSimpArgs false

theorem path_mem (l : List Int) (x : Int) : ∀ n k, x ∈ path n l k → 0 ≤ x ∧ x ≤ (l.length : Int) - 1 := by
  intro n
  induction n with
  | zero => intro k h; simp [path] at h
  | succ n ih =>
    intro k h
    unfold path at h
    split at h
    · rename_i hk
      rcases List.mem_cons.1 h with rfl | h
      · exact hk
      · exact ih _ h
    · simp at h
theorem ancestor_lt {l : List Int} {a k : Int} (h : ancestor l a k = true) : 0 ≤ a ∧ a ≤ (l.length : Int) - 1 := by
  unfold ancestor has pathUp at h
  simp only [Bool.and_eq_true, decide_eq_true_eq] at h
  exact path_mem l a _ _ h.2
theorem treeOk_len {l : List Int} (h : treeOk l = true) : 1 ≤ l.length ∧ l.length ≤ 7 := by
  unfold treeOk at h
  simp only [Bool.and_eq_true, decide_eq_true_eq] at h
  exact h.1

def nextBoss (l : List Int) (k boss : Int) : Int :=
  if treeOk l = true ∧ 1 ≤ k ∧ k ≤ (l.length : Int) - 1 then (if ancestor l boss k = true ∧ boss ≠ 0 then rd l boss else rd l k) else -1
theorem specNextBoss_ev (l : List Int) (a b : Int) (hl : l.length ≤ 1048576) : Ev (fun k => spec_NextBoss.f k l a b) (nextBoss l a b) := by
  unfold spec_NextBoss.f nextBoss
  refine Ev.bind (specTreeOk_ev l hl) ?_
  refine ev_bool (fun ht => ?_) (fun ht => Ev.step (f := fun _ => some (-1)) (fun k => rfl) (ev_eq ev_some (by simp [ht])))
  refine ev_then (l1In_eq _ _ _) ?_
  rw [w64 (by omega) (by omega)]
  by_cases hk : 1 ≤ a ∧ a ≤ (l.length : Int) - 1
  · rw [decide_eq_true hk, if_pos ⟨ht, hk⟩]
    refine Ev.step (fun k => rfl) ?_
    refine ev_if (fun hb => ?_) (fun hb => ?_)
    · refine ev_pos (by omega) (ev_pos (by omega) (ev_eq ev_some ?_))
      rw [if_neg]
      rintro ⟨h1, h2⟩
      have := ancestor_lt h1
      omega
    · refine Ev.bind (specAncestor_ev l b a hl) ?_
      refine ev_bool (fun h => ?_) (fun h => ?_)
      · have := ancestor_lt h
        refine ev_pos (by omega) (ev_pos (by omega) (ev_eq ev_some ?_))
        rw [if_pos ⟨h, by omega⟩]
      · refine ev_pos (by omega) (ev_pos (by omega) (ev_eq ev_some ?_))
        rw [if_neg (by rw [h]; simp)]
  · rw [decide_eq_false hk, if_neg (fun h => hk h.2)]
    exact Ev.step (f := fun _ => some (-1)) (fun k => rfl) ev_some
theorem implNextBoss_ev (l : List Int) (a b : Int) (hl : l.length ≤ 1048576) : Ev (fun k => impl_NextBoss.f k l a b) (nextBoss l a b) := by
  unfold impl_NextBoss.f nextBoss
  refine Ev.bind (implTreeOk_ev l hl) ?_
  refine ev_bool (fun ht => ?_) (fun ht => Ev.step (f := fun _ => some (-1)) (fun k => rfl) (ev_eq ev_some (by simp [ht])))
  refine ev_if (fun h0 => Ev.step (f := fun _ => some (-1)) (fun k => rfl) (ev_eq ev_some (by rw [if_neg (by omega)]))) (fun h0 => ?_)
  refine ev_then (isNode_eq l a hl) ?_
  by_cases hk : 0 ≤ a ∧ a ≤ (l.length : Int) - 1
  · rw [decide_eq_true hk, if_pos ⟨ht, by omega, hk.2⟩]
    refine Ev.step (fun k => rfl) ?_
    refine ev_if (fun hb => ?_) (fun hb => ?_)
    · refine ev_pos (by omega) (ev_pos (by omega) (ev_eq ev_some ?_))
      rw [if_neg (fun h => h.2 hb)]
    · refine Ev.bind (implAncestor_ev l b a hl) ?_
      refine ev_bool (fun h => ?_) (fun h => ?_)
      · have := ancestor_lt h
        refine ev_pos (by omega) (ev_pos (by omega) (ev_eq ev_some ?_))
        rw [if_pos ⟨h, hb⟩]
      · refine ev_pos (by omega) (ev_pos (by omega) (ev_eq ev_some ?_))
        rw [if_neg (by rw [h]; simp)]
  · rw [decide_eq_false hk, if_neg (fun h => hk ⟨by omega, h.2.2⟩)]
    exact Ev.step (f := fun _ => some (-1)) (fun k => rfl) ev_some
end Go.Proofs.Ytkfnhbpjphjckaa.Pb
