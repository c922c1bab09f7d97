/- The program's DeepOf returns what the reference's returns, for every tree and every number. No further condition. -/
import Derived.Test.YtodedajpbmogcaaQ24
import Derived.Test.YtodedajpbmogcaaPbTree
namespace Go.Proofs.Ytodedajpbmogcaa.Pure
open Go.RowKit Go.Proofs.Ytodedajpbmogcaa Go.Proofs.Ytodedajpbmogcaa.Q Go.Proofs.Ytodedajpbmogcaa.Pb Go.Proofs.YtodedajpbmogcaaW.PrintWords Go.Proofs.YtodedajpbmogcaaW.PrintLast
set_option linter.unusedVariables false
set_option linter.unusedSimpArgs false

theorem left_big {l : List Int} (h : ¬ (if (1048576 : Int) < (l.length : Int) then (-1 : Int) else 1048576 - (l.length : Int)) < 0) : l.length ≤ 1048576 := by
  split at h <;> omega
theorem FnExactDeepOf : ∀ (x0 : S27) (x1 : Int), good27 x0 → (Lit.int .i64 x1).wf = true → ∃ k, laws_FnExactDeepOf.f k x0.f0 x1 = some true := by
  intro x0 x1 g _
  refine Ev.rounds ?_
  unfold laws_FnExactDeepOf.f
  refine ev_then (szTree_eq _ g.1) ?_
  refine ev_if (fun _ => ev_some) (fun h => ?_)
  have hl := left_big h
  clear h
  refine Ev.bind (toTree_ev _ hl) ?_
  refine Ev.bind (specDeepOf_ev _ _ hl) ?_
  refine Ev.bind (toTree_ev _ hl) ?_
  refine Ev.bind (implDeepOf_ev _ _ hl) ?_
  refine ev_pos rfl ?_
  refine Ev.bind (toTree_ev _ hl) ?_
  refine Ev.bind (eqTree_ev _ _ (by omega)) ?_
  exact ev_pos (by simp) ev_some
end Go.Proofs.Ytodedajpbmogcaa.Pure
