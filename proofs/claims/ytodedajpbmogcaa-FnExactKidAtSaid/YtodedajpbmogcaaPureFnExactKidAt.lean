/- The program's KidAt returns what the reference's returns, for every list of clients and every number. No further condition. -/
import Derived.Test.YtodedajpbmogcaaQ33
import Derived.Test.YtodedajpbmogcaaPbKidAt
namespace Go.Proofs.Ytodedajpbmogcaa.Pure
open Go.RowKit Go.Proofs.Ytodedajpbmogcaa Go.Proofs.Ytodedajpbmogcaa.Q Go.Proofs.Ytodedajpbmogcaa.Pb Go.Proofs.YtodedajpbmogcaaW.PrintWords Go.Proofs.YtodedajpbmogcaaW.PrintLast
set_option linter.unusedVariables false
set_option linter.unusedSimpArgs false

theorem FnExactKidAt : ∀ (x0 : List S60) (x1 : Int), (Opn.Each good60) x0 → (Lit.int .i64 x1).wf = true → ∃ k, laws_FnExactKidAt.f k x0 x1 = some true := by
  intro x0 x1 g _
  refine Ev.rounds ?_
  unfold laws_FnExactKidAt.f
  refine ev_then (szKidS_eq _ g.1) ?_
  refine ev_if (fun _ => ev_some) (fun h => ?_)
  have hl := left_big h
  clear h
  have hm : (x0.map kidOf).length ≤ 1048576 := by simpa using hl
  refine Ev.bind (toKidS_ev _ hl) ?_
  refine Ev.bind (specKidAt_ev _ _ hm) ?_
  refine Ev.bind (toKidS_ev _ hl) ?_
  refine Ev.bind (implKidAt_ev _ _ hm) ?_
  refine ev_pos rfl ?_
  refine Ev.bind (toKidS_ev _ hl) ?_
  refine Ev.bind (eqKidS_refl _ (by omega)) ?_
  exact ev_pos rfl ev_some
end Go.Proofs.Ytodedajpbmogcaa.Pure
