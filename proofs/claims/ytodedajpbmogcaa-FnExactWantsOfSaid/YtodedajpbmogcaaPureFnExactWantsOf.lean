/- The program's WantsOf returns what the reference's returns, for every list of clients. No further condition. -/
import Derived.Test.YtodedajpbmogcaaQ46
import Derived.Test.YtodedajpbmogcaaPbKidAt
namespace Go.Proofs.Ytodedajpbmogcaa.Pure
open Go.RowKit Go.Proofs.Ytodedajpbmogcaa Go.Proofs.Ytodedajpbmogcaa.Q Go.Proofs.Ytodedajpbmogcaa.Pb Go.Proofs.YtodedajpbmogcaaW.PrintWords Go.Proofs.YtodedajpbmogcaaW.PrintLast
set_option linter.unusedVariables false
set_option linter.unusedSimpArgs false

theorem FnExactWantsOf : ∀ (x0 : List S60), (Opn.Each good60) x0 → ∃ k, laws_FnExactWantsOf.f k x0 = some true := by
  intro x0 g
  refine Ev.rounds ?_
  unfold laws_FnExactWantsOf.f
  refine ev_then (szKidS_eq _ g.1) ?_
  refine ev_if (fun _ => ev_some) (fun h => ?_)
  have hl := left_big h
  clear h
  have hm : (x0.map kidOf).length ≤ 1048576 := by simpa using hl
  refine Ev.bind (toKidS_ev _ hl) ?_
  refine Ev.bind (specWantsOf_ev _ hm) ?_
  refine Ev.bind (toKidS_ev _ hl) ?_
  refine Ev.bind (implWantsOf_ev _ hm) ?_
  refine ev_pos rfl ?_
  refine Ev.bind (toKidS_ev _ hl) ?_
  refine Ev.bind (eqKidS_refl _ (by omega)) ?_
  exact ev_pos rfl ev_some
end Go.Proofs.Ytodedajpbmogcaa.Pure
