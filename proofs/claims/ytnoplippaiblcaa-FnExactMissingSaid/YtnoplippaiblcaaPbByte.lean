/- Bytes as plain lists: the laws' copies and comparisons of them. No condition beyond the size that the laws ask. -/
import Derived.Test.YtnoplippaiblcaaQ15
import Derived.Test.YtnoplippaiblcaaQ4
import Derived.Test.YtnoplippaiblcaaPb
namespace Go.Proofs.Ytnoplippaiblcaa.Pb
open Go.RowKit Go.Proofs.Ytnoplippaiblcaa Go.Proofs.Ytnoplippaiblcaa.Q Go.Proofs.YtnoplippaiblcaaW.PrintWords Go.Proofs.YtnoplippaiblcaaW.PrintLast
set_option linter.unusedVariables false
set_option linter.unusedSimpArgs false

theorem toByteS_ev (l : List Int) (hl : l.length ≤ 1048576) : Ev (fun k => laws_toByteS.f k l) l := by
  unfold laws_toByteS.f
  refine ev_pos (by omega) (ev_pos (by simp; omega) ?_)
  refine loop_up (fun k s i => laws_toByteS.l0 k l s i) l.length (fun i (s : List Int) => s.set i (l.getD i 0)) (fun _ s => s.length = l.length) _ l (by simp) (fun i s _ h => by simpa using h) ?_ ?_
  · intro i s r hi hs h
    refine Ev.step (fun k => rfl) ?_
    refine ev_pos (by omega) (ev_pos (by omega) (ev_pos (by omega) ?_))
    rw [w64 (by omega) (by omega)]
    simpa [rd] using h
  · intro hs
    refine Ev.step (fun k => rfl) ?_
    refine ev_neg (by omega) (ev_eq ev_some ?_)
    have h1 := iter_set l.length (fun i => l.getD i 0) (List.replicate (l.length : Int).toNat 0) (by simp)
    rw [h1]
    have h2 := map_range_get l 0 id
    simpa using h2
theorem eqByteS_ev (a b : List Int) (ha : a.length ≤ 9223372036854775806) : Ev (fun k => laws_eqByteS.f k a b) (decide (a = b)) := by
  unfold laws_eqByteS.f
  refine ev_if (fun hl => ?_) (fun hl => ev_eq ev_some ?_)
  · have hl' : a.length = b.length := by omega
    rw [← all_range_eq a b 0 hl']
    refine loop_all (fun k i => laws_eqByteS.l0 k a b i) a.length _ ?_ ?_ ?_
    · intro i r hi hp h
      refine Ev.step (fun k => rfl) ?_
      refine ev_pos (by omega) (ev_pos (by omega) (ev_pos (by omega) (ev_pos (by simpa [rd] using hp) ?_)))
      rw [w64 (by omega) (by omega)]
      exact h
    · intro i hi hp
      refine Ev.step (fun k => rfl) ?_
      exact ev_pos (by omega) (ev_pos (by omega) (ev_pos (by omega) (ev_neg (by simpa [rd] using hp) ev_some)))
    · refine Ev.step (fun k => rfl) ?_
      exact ev_neg (by omega) ev_some
  · symm
    rw [decide_eq_false_iff_not]
    rintro rfl
    exact hl rfl
end Go.Proofs.Ytnoplippaiblcaa.Pb
