/- Finding the marks in sums of blocks again. No condition beyond the size that the laws ask. -/
import Derived.Test.YtkfnhbpjphjckaaQ32
import Derived.Test.YtkfnhbpjphjckaaPbSumMark
namespace Go.Proofs.Ytkfnhbpjphjckaa.Pb
open Go.RowKit Go.Proofs.Ytkfnhbpjphjckaa Go.Proofs.Ytkfnhbpjphjckaa.Q Go.Proofs.YtkfnhbpjphjckaaW.PrintWords Go.Proofs.YtkfnhbpjphjckaaW.PrintLast
set_option linter.unusedVariables false
set_option linter.unusedSimpArgs false

theorem heldSumS_ev (a : Int) (n : Nat) (h0 : 0 ≤ a) (h1 : a + 2 * n ≤ 9223372036854775806) : Ev (fun k => laws_heldSumS.f k (sumMarks a n) a) (a + 2 * n) := by
  unfold laws_heldSumS.f
  have hl := sumMarks_length a n
  refine loop_up (fun k s i => laws_heldSumS.l0 k (sumMarks a n) s i) n (fun i s => s + 2) (fun i s => s = a + 2 * i) a _ (by simp) (fun i s _ h => by omega) ?_ ?_
  · rintro i s r hi hs h
    refine Ev.step (fun k => rfl) ?_
    refine ev_pos (by omega) (ev_pos (by omega) ?_)
    rw [sumMarks_rd _ _ _ hi]
    rw [w64 (x := s + 1) (by omega) (by omega), w64 (x := s + 1 + 1) (by omega) (by omega), w64 (x := (i : Int) + 1) (by omega) (by omega)]
    unfold sumMark
    simp only
    refine ev_pos (by omega) (ev_pos (by omega) ?_)
    rw [show s + 1 + 1 = s + 2 by omega]
    exact h
  · intro hs
    refine Ev.step (fun k => rfl) ?_
    refine ev_neg (by omega) (ev_eq ev_some hs)
theorem heldManifest_ev (b c d : Int) (a : Int) (n : Nat) (h0 : 0 ≤ a) (h1 : a + 2 * n ≤ 9223372036854775806) : Ev (fun k => laws_heldManifest.f k b c d (sumMarks a n) a) (a + 2 * n) := by
  unfold laws_heldManifest.f
  refine Ev.bind (heldSumS_ev a n h0 h1) ?_
  exact ev_neg (by omega) ev_some
end Go.Proofs.Ytkfnhbpjphjckaa.Pb
