/- The program's Ancestor returns what the reference's returns, for every tree and every two numbers. No further condition. -/
import Derived.Test.YtodedajpbmogcaaQ56
import Derived.Test.YtodedajpbmogcaaPbTree
namespace Go.Proofs.Ytodedajpbmogcaa.Pure
open Go.RowKit Go.Proofs.Ytodedajpbmogcaa Go.Proofs.Ytodedajpbmogcaa.Q Go.Proofs.Ytodedajpbmogcaa.Pb Go.Proofs.YtodedajpbmogcaaW.PrintWords Go.Proofs.YtodedajpbmogcaaW.PrintLast
set_option linter.unusedVariables false
set_option linter.unusedSimpArgs false

theorem left_big {l : List Int} (h : ¬ (if (1048576 : Int) < (l.length : Int) then (-1 : Int) else 1048576 - (l.length : Int)) < 0) : l.length ≤ 1048576 := by
  split at h <;> omega
theorem FnExactAncestor : ∀ (x0 : S27) (x1 : Int) (x2 : Int), good27 x0 → (Lit.int .i64 x1).wf = true → (Lit.int .i64 x2).wf = true → ∃ k, laws_FnExactAncestor.f k x0.f0 x1 x2 = some true := by
  intro x0 x1 x2 g _ _
  refine Ev.rounds ?_
  unfold laws_FnExactAncestor.f
  refine ev_then (szTree_eq _ g.1) ?_
  refine ev_if (fun _ => ev_some) (fun h => ?_)
  have hl := left_big h
  clear h
  refine Ev.bind (toTree_ev _ hl) ?_
  refine Ev.bind (specAncestor_ev _ _ _ hl) ?_
  refine Ev.bind (toTree_ev _ hl) ?_
  refine Ev.bind (implAncestor_ev _ _ _ hl) ?_
  refine ev_neg (by simp) ?_
  refine Ev.bind (toTree_ev _ hl) ?_
  refine Ev.bind (eqTree_ev _ _ (by omega)) ?_
  exact ev_pos (by simp) ev_some
end Go.Proofs.Ytodedajpbmogcaa.Pure
