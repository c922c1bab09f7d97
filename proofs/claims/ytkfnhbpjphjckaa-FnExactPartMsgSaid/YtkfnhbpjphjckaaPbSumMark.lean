/- Marking sums of blocks. No condition beyond the size that the laws ask. -/
import Derived.Test.YtkfnhbpjphjckaaQ31
import Derived.Test.YtkfnhbpjphjckaaPbNum
namespace Go.Proofs.Ytkfnhbpjphjckaa.Pb
open Go.RowKit Go.Proofs.Ytkfnhbpjphjckaa Go.Proofs.Ytkfnhbpjphjckaa.Q Go.Proofs.YtkfnhbpjphjckaaW.PrintWords Go.Proofs.YtkfnhbpjphjckaaW.PrintLast
set_option linter.unusedVariables false
set_option linter.unusedSimpArgs false

/-- Sums of marks, from a on. -/
def sumMark (a : Int) : S103 := ⟨a, a + 1⟩
def sumMarks (a : Int) (n : Nat) : List S103 := (List.range n).map fun (i : Nat) => sumMark (a + 2 * (i : Int))
theorem sumMarks_length (a : Int) (n : Nat) : (sumMarks a n).length = n := by simp [sumMarks]
theorem sumMarks_rd (a : Int) (n i : Nat) (h : i < n) : rd_T103 (sumMarks a n) (i : Int) = sumMark (a + 2 * i) := by
  unfold rd_T103 sumMarks
  simp [List.getD_eq_getElem?_getD, h]
theorem rdSum_set (l : List S103) (i : Nat) (x : S103) (h : i < l.length) : rd_T103 (l.set i x) (i : Int) = x := by
  unfold rd_T103
  simp [List.getD_eq_getElem?_getD, h]
theorem markSumS_ev (l : List S103) (a : Int) (h0 : 0 ≤ a) (h1 : a + 2 * l.length ≤ 9223372036854775806) : Ev (fun k => laws_markSumS.f k l a) (a + 2 * l.length, sumMarks a l.length) := by
  unfold laws_markSumS.f
  refine loop_up (σ := List S103 × Int) (fun k s i => laws_markSumS.l0 k s.1 s.2 i) l.length (fun i s => (s.1.set i (sumMark s.2), s.2 + 2)) (fun i s => s.1.length = l.length ∧ s.2 = a + 2 * i) (l, a) _ ⟨rfl, by simp⟩ ?_ ?_ ?_
  · rintro i ⟨x, y⟩ _ ⟨hx, hy⟩
    simp only at hx hy ⊢
    exact ⟨by simpa using hx, by omega⟩
  · rintro i ⟨x, y⟩ r hi ⟨hx, hy⟩ h
    simp only at hx hy h ⊢
    refine Ev.step (fun k => rfl) ?_
    refine ev_pos (by omega) (ev_pos (by omega) ?_)
    rw [w64 (x := y + 1) (by omega) (by omega), w64 (x := y + 1 + 1) (by omega) (by omega), w64 (x := (i : Int) + 1) (by omega) (by omega)]
    simp only [Option.bind_some, Int.toNat_natCast]
    rw [rdSum_set x i _ (by omega)]
    simp only [List.set_set]
    have e : (⟨y, y + 1⟩ : S103) = sumMark y := rfl
    rw [e, show y + 1 + 1 = y + 2 by omega]
    exact h
  · rintro ⟨hx, hy⟩
    refine Ev.step (fun k => rfl) ?_
    refine ev_neg (by omega) (ev_eq ev_some ?_)
    have key : ∀ n, iter n (fun (i : Nat) (s : List S103 × Int) => (s.1.set i (sumMark s.2), s.2 + 2)) (l, a) = (iter n (fun i (s : List S103) => s.set i (sumMark (a + 2 * (i : Int)))) l, a + 2 * (n : Int)) := by
      intro n
      induction n with
      | zero => simp [iter_zero]
      | succ n ih => rw [iter_succ, ih, iter_succ]; simp; omega
    rw [key, iter_set _ _ _ rfl]
    rfl
theorem markManifest_ev (b c d : Int) (l : List S103) (a : Int) (h0 : 0 ≤ a) (h1 : a + 2 * l.length ≤ 9223372036854775806) : Ev (fun k => laws_markManifest.f k b c d l a) (a + 2 * l.length, sumMarks a l.length) := by
  unfold laws_markManifest.f
  exact Ev.bind (markSumS_ev l a h0 h1) ev_some
end Go.Proofs.Ytkfnhbpjphjckaa.Pb
