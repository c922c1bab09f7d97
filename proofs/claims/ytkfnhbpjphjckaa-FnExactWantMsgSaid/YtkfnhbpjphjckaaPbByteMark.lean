/- Marking bytes and finding the marks again. No condition beyond the size that the laws ask. -/
import Derived.Test.YtkfnhbpjphjckaaQ31
import Derived.Test.YtkfnhbpjphjckaaQ32
import Derived.Test.YtkfnhbpjphjckaaPbNum
namespace Go.Proofs.Ytkfnhbpjphjckaa.Pb
open Go.RowKit Go.Proofs.Ytkfnhbpjphjckaa Go.Proofs.Ytkfnhbpjphjckaa.Q Go.Proofs.YtkfnhbpjphjckaaW.PrintWords Go.Proofs.YtkfnhbpjphjckaaW.PrintLast
set_option linter.unusedVariables false
set_option linter.unusedSimpArgs false

/-- The low bytes of a, a + 1, .., n of them. -/
def byteMarks (a : Int) (n : Nat) : List Int := (List.range n).map fun (i : Nat) => (a + (i : Int)) % 256
theorem byteMarks_length (a : Int) (n : Nat) : (byteMarks a n).length = n := by simp [byteMarks]
theorem byteMarks_rd (a : Int) (n i : Nat) (h : i < n) : rd (byteMarks a n) (i : Int) = (a + i) % 256 := by
  unfold rd byteMarks
  simp [List.getD_eq_getElem?_getD, h]
theorem markByteS_ev (l : List Int) (a : Int) (h0 : 0 ≤ a) (h1 : a + l.length ≤ 9223372036854775806) : Ev (fun k => laws_markByteS.f k l a) (a + l.length, byteMarks a l.length) := by
  unfold laws_markByteS.f
  refine loop_up (σ := List Int × Int) (fun k s i => laws_markByteS.l0 k s.1 s.2 i) l.length (fun i s => (s.1.set i (s.2 % 256), s.2 + 1)) (fun i s => s.1.length = l.length ∧ s.2 = a + i) (l, a) _ ⟨rfl, by simp⟩ ?_ ?_ ?_
  · rintro i ⟨x, y⟩ _ ⟨hx, hy⟩
    simp only at hx hy ⊢
    exact ⟨by simpa using hx, by omega⟩
  · rintro i ⟨x, y⟩ r hi ⟨hx, hy⟩ h
    simp only at hx hy h ⊢
    refine Ev.step (fun k => rfl) ?_
    refine ev_pos (by omega) (ev_pos (by omega) ?_)
    rw [w64 (x := y + 1) (by omega) (by omega), w64 (x := (i : Int) + 1) (by omega) (by omega)]
    simpa using h
  · rintro ⟨hx, hy⟩
    refine Ev.step (fun k => rfl) ?_
    refine ev_neg (by omega) (ev_eq ev_some ?_)
    have key : ∀ n, iter n (fun (i : Nat) (s : List Int × Int) => (s.1.set i (s.2 % 256), s.2 + 1)) (l, a) = (iter n (fun i (s : List Int) => s.set i ((a + (i : Int)) % 256)) l, a + (n : Int)) := by
      intro n
      induction n with
      | zero => simp [iter_zero]
      | succ n ih => rw [iter_succ, ih, iter_succ]; simp; omega
    rw [key, iter_set _ _ _ rfl]
    rfl
theorem heldByteS_ev (a : Int) (n : Nat) (h0 : 0 ≤ a) (h1 : a + n ≤ 9223372036854775806) : Ev (fun k => laws_heldByteS.f k (byteMarks a n) a) (a + n) := by
  unfold laws_heldByteS.f
  have hl := byteMarks_length a n
  refine loop_up (fun k s i => laws_heldByteS.l0 k (byteMarks a n) s i) n (fun i s => s + 1) (fun i s => s = a + i) a _ (by simp) (fun i s _ h => by omega) ?_ ?_
  · rintro i s r hi hs h
    refine Ev.step (fun k => rfl) ?_
    refine ev_pos (by omega) (ev_pos (by omega) (ev_pos (by rw [byteMarks_rd _ _ _ hi, hs]) ?_))
    rw [w64 (x := s + 1) (by omega) (by omega), w64 (by omega) (by omega)]
    exact h
  · intro hs
    refine Ev.step (fun k => rfl) ?_
    refine ev_neg (by omega) (ev_eq ev_some hs)
end Go.Proofs.Ytkfnhbpjphjckaa.Pb
