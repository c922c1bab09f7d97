/- Ageing a list of clients, and marking one, as plain lists. No condition beyond the size that the laws ask. -/
import Derived.Test.YtkfnhbpjphjckaaQ2
import Derived.Test.YtkfnhbpjphjckaaQ3
import Derived.Test.YtkfnhbpjphjckaaQ6
import Derived.Test.YtkfnhbpjphjckaaQ7
import Derived.Test.YtkfnhbpjphjckaaPbKid
namespace Go.Proofs.Ytkfnhbpjphjckaa.Pb
open Go.RowKit Go.Proofs.Ytkfnhbpjphjckaa Go.Proofs.Ytkfnhbpjphjckaa.Q Go.Proofs.YtkfnhbpjphjckaaW.PrintWords Go.Proofs.YtkfnhbpjphjckaaW.PrintLast
set_option linter.unusedVariables false
set_option linter.unusedSimpArgs false

/-- One client, aged. -/
def aged (x : S77) : S77 := ⟨x.f0, x.f1, x.f2, wrap64 (x.f3 + 1), 0⟩
def ageAll (l : List S77) (forget : Int) : List S77 := iter l.length (fun i (s : List S77) => if (l.getD i z77).f3 < forget then s ++ [aged (l.getD i z77)] else s) []
theorem ageAll_length (l : List S77) (forget : Int) : (ageAll l forget).length ≤ l.length := by
  unfold ageAll
  have : ∀ n, (iter n (fun i (s : List S77) => if (l.getD i z77).f3 < forget then s ++ [aged (l.getD i z77)] else s) []).length ≤ n := by
    intro n
    induction n with
    | zero => simp [iter_zero]
    | succ n ih =>
      rw [iter_succ]
      split
      · rw [List.length_append, List.length_singleton]; omega
      · omega
  exact this _
theorem specAgeAll_ev (l : List S77) (a : Int) (hl : l.length ≤ 1048576) : Ev (fun k => spec_AgeAll.f k l a) (ageAll l a) := by
  refine loop_up (fun k s i => spec_AgeAll.l0 k l a s i) l.length (fun i (s : List S77) => if (l.getD i z77).f3 < a then s ++ [aged (l.getD i z77)] else s) (fun i s => s.length ≤ i) [] _ (by simp) ?_ ?_ ?_
  · intro i s hi h
    split
    · rw [List.length_append, List.length_singleton]; omega
    · omega
  · intro i s r hi hs h
    refine Ev.step (fun k => rfl) ?_
    refine ev_pos (by omega) (ev_pos (by omega) ?_)
    rw [w64 (x := (i : Int) + 1) (by omega) (by omega)]
    refine ev_if (fun hb => ?_) (fun hb => ev_pos (by omega) ?_)
    · rw [if_neg (by have : (l.getD i z77).f3 ≥ a := hb; omega)] at h; exact h
    · rw [if_pos (by have : ¬ (l.getD i z77).f3 ≥ a := hb; omega)] at h; exact h
  · intro hs
    refine Ev.step (fun k => rfl) ?_
    exact ev_neg (by omega) ev_some
theorem implAgeAll_ev (l : List S77) (a : Int) (hl : l.length ≤ 1048576) : Ev (fun k => impl_AgeAll.f k l a) (ageAll l a) := by
  refine loop_up (fun k s i => impl_AgeAll.l0 k a s l (l.length : Int) i) l.length (fun i (s : List S77) => if (l.getD i z77).f3 < a then s ++ [aged (l.getD i z77)] else s) (fun i s => s.length ≤ i) [] _ (by simp) ?_ ?_ ?_
  · intro i s hi h
    split
    · rw [List.length_append, List.length_singleton]; omega
    · omega
  · intro i s r hi hs h
    refine Ev.step (fun k => rfl) ?_
    refine ev_pos (by omega) (ev_pos (by omega) (ev_pos (by omega) ?_))
    rw [w64 (x := (i : Int) + 1) (by omega) (by omega)]
    refine ev_if (fun hb => ev_pos (by omega) ?_) (fun hb => ?_)
    · rw [if_pos (by have : (l.getD i z77).f3 < a := hb; omega)] at h; exact h
    · rw [if_neg (by have : ¬ (l.getD i z77).f3 < a := hb; omega)] at h; exact h
  · intro hs
    refine Ev.step (fun k => rfl) ?_
    exact ev_neg (by omega) ev_some

/-- A client of marks, from a on. -/
def kidMark (a : Int) : S77 := ⟨a, a + 1, a + 2, a + 3, a + 4⟩
def kidMarks (a : Int) (n : Nat) : List S77 := (List.range n).map fun (i : Nat) => kidMark (a + 5 * (i : Int))
theorem kidMarks_length (a : Int) (n : Nat) : (kidMarks a n).length = n := by simp [kidMarks]
theorem kidMarks_rd (a : Int) (n i : Nat) (h : i < n) : rd_T77 (kidMarks a n) (i : Int) = kidMark (a + 5 * i) := by
  unfold rd_T77 kidMarks
  simp [List.getD_eq_getElem?_getD, h]
theorem rdKid_set (l : List S77) (i : Nat) (x : S77) (h : i < l.length) : rd_T77 (l.set i x) (i : Int) = x := by
  unfold rd_T77
  simp [List.getD_eq_getElem?_getD, h]
theorem markKidS_ev (l : List S77) (a : Int) (h0 : 0 ≤ a) (h1 : a + 5 * l.length ≤ 9223372036854775806) : Ev (fun k => laws_markKidS.f k l a) (a + 5 * l.length, kidMarks a l.length) := by
  unfold laws_markKidS.f
  refine loop_up (σ := List S77 × Int) (fun k s i => laws_markKidS.l0 k s.1 s.2 i) l.length (fun i s => (s.1.set i (kidMark s.2), s.2 + 5)) (fun i s => s.1.length = l.length ∧ s.2 = a + 5 * i) (l, a) _ ⟨rfl, by simp⟩ ?_ ?_ ?_
  · rintro i ⟨x, y⟩ _ ⟨hx, hy⟩
    simp only at hx hy ⊢
    exact ⟨by simpa using hx, by omega⟩
  · rintro i ⟨x, y⟩ r hi ⟨hx, hy⟩ h
    simp only at hx hy h ⊢
    refine Ev.step (fun k => rfl) ?_
    refine ev_pos (by omega) (ev_pos (by omega) ?_)
    rw [w64 (x := y + 1) (by omega) (by omega), w64 (x := y + 1 + 1) (by omega) (by omega), w64 (x := y + 1 + 1 + 1) (by omega) (by omega), w64 (x := y + 1 + 1 + 1 + 1) (by omega) (by omega), w64 (x := y + 1 + 1 + 1 + 1 + 1) (by omega) (by omega), w64 (x := (i : Int) + 1) (by omega) (by omega)]
    simp only [Option.bind_some, Int.toNat_natCast]
    rw [rdKid_set x i _ (by omega), rdKid_set _ i _ (by simp; omega), rdKid_set _ i _ (by simp; omega), rdKid_set _ i _ (by simp; omega)]
    simp only [List.set_set]
    have e : (⟨y, y + 1, y + 1 + 1, y + 1 + 1 + 1, y + 1 + 1 + 1 + 1⟩ : S77) = kidMark y := by
      unfold kidMark
      congr 1 <;> omega
    rw [e, show y + 1 + 1 + 1 + 1 + 1 = y + 5 by omega]
    exact h
  · rintro ⟨hx, hy⟩
    refine Ev.step (fun k => rfl) ?_
    refine ev_neg (by omega) (ev_eq ev_some ?_)
    have key : ∀ n, iter n (fun (i : Nat) (s : List S77 × Int) => (s.1.set i (kidMark s.2), s.2 + 5)) (l, a) = (iter n (fun i (s : List S77) => s.set i (kidMark (a + 5 * (i : Int)))) l, a + 5 * (n : Int)) := by
      intro n
      induction n with
      | zero => simp [iter_zero]
      | succ n ih => rw [iter_succ, ih, iter_succ]; simp; omega
    rw [key, iter_set _ _ _ rfl]
    rfl
theorem heldKidS_ev (a : Int) (n : Nat) (h0 : 0 ≤ a) (h1 : a + 5 * n ≤ 9223372036854775806) : Ev (fun k => laws_heldKidS.f k (kidMarks a n) a) (a + 5 * n) := by
  unfold laws_heldKidS.f
  have hl := kidMarks_length a n
  refine loop_up (fun k s i => laws_heldKidS.l0 k (kidMarks a n) s i) n (fun i s => s + 5) (fun i s => s = a + 5 * i) a _ (by simp) (fun i s _ h => by omega) ?_ ?_
  · rintro i s r hi hs h
    refine Ev.step (fun k => rfl) ?_
    refine ev_pos (by omega) (ev_pos (by omega) ?_)
    rw [kidMarks_rd _ _ _ hi]
    rw [w64 (x := s + 1) (by omega) (by omega), w64 (x := s + 1 + 1) (by omega) (by omega), w64 (x := s + 1 + 1 + 1) (by omega) (by omega), w64 (x := s + 1 + 1 + 1 + 1) (by omega) (by omega), w64 (x := s + 1 + 1 + 1 + 1 + 1) (by omega) (by omega), w64 (x := (i : Int) + 1) (by omega) (by omega)]
    unfold kidMark
    simp only
    refine ev_pos (by omega) (ev_pos (by omega) (ev_pos (by omega) (ev_pos (by omega) (ev_pos (by omega) ?_))))
    rw [show s + 1 + 1 + 1 + 1 + 1 = s + 5 by omega]
    exact h
  · intro hs
    refine Ev.step (fun k => rfl) ?_
    refine ev_neg (by omega) (ev_eq ev_some hs)
end Go.Proofs.Ytkfnhbpjphjckaa.Pb
