/- The program's SendTo returns what the reference's returns, for every list of clients and every number. No further condition. -/
import Derived.Test.YtodedajpbmogcaaQ63
import Derived.Test.YtodedajpbmogcaaPbKidAt
namespace Go.Proofs.Ytodedajpbmogcaa.Pure
open Go.RowKit Go.Proofs.Ytodedajpbmogcaa Go.Proofs.Ytodedajpbmogcaa.Q Go.Proofs.Ytodedajpbmogcaa.Pb Go.Proofs.YtodedajpbmogcaaW.PrintWords Go.Proofs.YtodedajpbmogcaaW.PrintLast
set_option linter.unusedVariables false
set_option linter.unusedSimpArgs false

theorem FnExactSendTo : ∀ (x0 : List S60) (x1 : Int) (x2 : Int), (Opn.Each good60) x0 → (Lit.int .i64 x1).wf = true → (Lit.int .i64 x2).wf = true → ∃ k, laws_FnExactSendTo.f k x0 x1 x2 = some true := by
  intro x0 x1 x2 g _ _
  refine Ev.rounds ?_
  unfold laws_FnExactSendTo.f
  refine ev_then (szKidS_eq _ g.1) ?_
  refine ev_if (fun _ => ev_some) (fun h => ?_)
  have hl := left_big h
  clear h
  have hm : (x0.map kidOf).length ≤ 1048576 := by simpa using hl
  refine Ev.bind (toKidS_ev _ hl) ?_
  refine Ev.bind (specSendTo_ev _ _ _ hm) ?_
  refine Ev.bind (toKidS_ev _ hl) ?_
  refine Ev.bind (implSendTo_ev _ _ _ hm) ?_
  refine ev_pos rfl ?_
  refine Ev.bind (toKidS_ev _ hl) ?_
  refine Ev.bind (eqKidS_refl _ (by omega)) ?_
  exact ev_pos rfl ev_some
end Go.Proofs.Ytodedajpbmogcaa.Pure
