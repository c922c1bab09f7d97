/- The program's TreeOk returns what the reference's returns, for every tree. No further condition. -/
import Derived.Test.YtodedajpbmogcaaQ17
import Derived.Test.YtodedajpbmogcaaPbTree
namespace Go.Proofs.Ytodedajpbmogcaa.Pure
open Go.RowKit Go.Proofs.Ytodedajpbmogcaa Go.Proofs.Ytodedajpbmogcaa.Q Go.Proofs.Ytodedajpbmogcaa.Pb Go.Proofs.YtodedajpbmogcaaW.PrintWords Go.Proofs.YtodedajpbmogcaaW.PrintLast
set_option linter.unusedVariables false
set_option linter.unusedSimpArgs false

theorem left_big {l : List Int} (h : ¬ (if (1048576 : Int) < (l.length : Int) then (-1 : Int) else 1048576 - (l.length : Int)) < 0) : l.length ≤ 1048576 := by
  split at h <;> omega
theorem FnExactTreeOk : ∀ (x0 : S27), good27 x0 → ∃ k, laws_FnExactTreeOk.f k x0.f0 = some true := by
  intro x0 g
  refine Ev.rounds ?_
  unfold laws_FnExactTreeOk.f
  refine ev_then (szTree_eq _ g.1) ?_
  refine ev_if (fun _ => ev_some) (fun h => ?_)
  have hl := left_big h
  clear h
  refine Ev.bind (toTree_ev _ hl) ?_
  refine Ev.bind (specTreeOk_ev _ hl) ?_
  refine Ev.bind (toTree_ev _ hl) ?_
  refine Ev.bind (implTreeOk_ev _ hl) ?_
  refine ev_neg (by simp) ?_
  refine Ev.bind (toTree_ev _ hl) ?_
  refine Ev.bind (eqTree_ev _ _ (by omega)) ?_
  exact ev_pos (by simp) ev_some
end Go.Proofs.Ytodedajpbmogcaa.Pure
