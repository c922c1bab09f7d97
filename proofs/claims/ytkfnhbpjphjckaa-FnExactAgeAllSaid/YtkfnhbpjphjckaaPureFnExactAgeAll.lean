/- The program's AgeAll returns what the reference's returns, for every list of clients and every number, in memory of its own. No further condition. -/
import Derived.Test.YtkfnhbpjphjckaaQ8
import Derived.Test.YtkfnhbpjphjckaaPbAge
namespace Go.Proofs.Ytkfnhbpjphjckaa.Pure
open Go.RowKit Go.Proofs.Ytkfnhbpjphjckaa Go.Proofs.Ytkfnhbpjphjckaa.Q Go.Proofs.Ytkfnhbpjphjckaa.Pb Go.Proofs.YtkfnhbpjphjckaaW.PrintWords Go.Proofs.YtkfnhbpjphjckaaW.PrintLast
set_option linter.unusedVariables false
set_option linter.unusedSimpArgs false

theorem FnExactAgeAll : ∀ (x0 : List S79) (x1 : Int), (Opn.Each good79) x0 → (Lit.int .i64 x1).wf = true → ∃ k, laws_FnExactAgeAll.f k x0 x1 = some true := by
  intro x0 x1 g _
  refine Ev.rounds ?_
  unfold laws_FnExactAgeAll.f
  refine ev_then (szKidS_eq _ g.1) ?_
  refine ev_if (fun _ => ev_some) (fun h => ?_)
  have hl := left_big h
  clear h
  have hm : (x0.map kidOf).length ≤ 1048576 := by simpa using hl
  refine Ev.bind (toKidS_ev _ hl) ?_
  refine Ev.bind (specAgeAll_ev _ _ hm) ?_
  refine Ev.bind (toKidS_ev _ hl) ?_
  refine Ev.bind (implAgeAll_ev _ _ hm) ?_
  have hp := ageAll_length (x0.map kidOf) x1
  generalize hq : ageAll (x0.map kidOf) x1 = q at hp ⊢
  refine Ev.bind (eqKidS_refl _ (by omega)) ?_
  refine ev_true ?_
  refine Ev.bind (toKidS_ev _ hl) ?_
  refine Ev.bind (eqKidS_refl _ (by omega)) ?_
  refine ev_true ?_
  refine Ev.bind (markKidS_ev _ _ (by omega) (by omega)) ?_
  refine ev_neg (by simp only; omega) ?_
  refine Ev.bind (eqKidS_refl _ (by omega)) ?_
  refine Ev.step (fun k => rfl) ?_
  refine Ev.bind (markKidS_ev _ _ (by omega) (by omega)) ?_
  refine Ev.bind (heldKidS_ev _ _ (by omega) (by omega)) ?_
  refine ev_neg (by omega) (ev_pos rfl ?_)
  refine Ev.bind (toKidS_ev _ hl) ?_
  refine Ev.bind (implAgeAll_ev _ _ hm) ?_
  rw [hq]
  refine Ev.bind (eqKidS_refl _ (by omega)) ?_
  refine ev_true ?_
  refine Ev.bind (heldKidS_ev _ _ (by omega) (by omega)) ?_
  exact ev_neg (by omega) (ev_pos rfl ev_some)
end Go.Proofs.Ytkfnhbpjphjckaa.Pure
