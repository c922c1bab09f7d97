/- The program's DoneOf returns what the reference's returns, for every list of clients. No further condition. -/
import Derived.Test.YtodedajpbmogcaaQ43
import Derived.Test.YtodedajpbmogcaaPbKidAt
namespace Go.Proofs.Ytodedajpbmogcaa.Pure
open Go.RowKit Go.Proofs.Ytodedajpbmogcaa Go.Proofs.Ytodedajpbmogcaa.Q Go.Proofs.Ytodedajpbmogcaa.Pb Go.Proofs.YtodedajpbmogcaaW.PrintWords Go.Proofs.YtodedajpbmogcaaW.PrintLast
set_option linter.unusedVariables false
set_option linter.unusedSimpArgs false

theorem FnExactDoneOf : ∀ (x0 : List S60), (Opn.Each good60) x0 → ∃ k, laws_FnExactDoneOf.f k x0 = some true := by
  intro x0 g
  refine Ev.rounds ?_
  unfold laws_FnExactDoneOf.f
  refine ev_then (szKidS_eq _ g.1) ?_
  refine ev_if (fun _ => ev_some) (fun h => ?_)
  have hl := left_big h
  clear h
  have hm : (x0.map kidOf).length ≤ 1048576 := by simpa using hl
  refine Ev.bind (toKidS_ev _ hl) ?_
  refine Ev.bind (specDoneOf_ev _ hm) ?_
  refine Ev.bind (toKidS_ev _ hl) ?_
  refine Ev.bind (implDoneOf_ev _ hm) ?_
  refine ev_pos rfl ?_
  refine Ev.bind (toKidS_ev _ hl) ?_
  refine Ev.bind (eqKidS_refl _ (by omega)) ?_
  exact ev_pos rfl ev_some
end Go.Proofs.Ytodedajpbmogcaa.Pure
