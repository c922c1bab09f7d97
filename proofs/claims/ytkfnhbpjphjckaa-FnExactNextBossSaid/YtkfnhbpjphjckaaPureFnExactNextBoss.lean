/- The program's NextBoss returns what the reference's returns, for every tree and every two numbers. No further condition. -/
import Derived.Test.YtkfnhbpjphjckaaQ16
import Derived.Test.YtkfnhbpjphjckaaPbBoss
namespace Go.Proofs.Ytkfnhbpjphjckaa.Pure
open Go.RowKit Go.Proofs.Ytkfnhbpjphjckaa Go.Proofs.Ytkfnhbpjphjckaa.Q Go.Proofs.Ytkfnhbpjphjckaa.Pb Go.Proofs.YtkfnhbpjphjckaaW.PrintWords Go.Proofs.YtkfnhbpjphjckaaW.PrintLast
set_option linter.unusedVariables false
set_option linter.unusedSimpArgs false

theorem FnExactNextBoss : ∀ (x0 : S32) (x1 : Int) (x2 : Int), good32 x0 → (Lit.int .i64 x1).wf = true → (Lit.int .i64 x2).wf = true → ∃ k, laws_FnExactNextBoss.f k x0.f0 x1 x2 = some true := by
  intro x0 x1 x2 g _ _
  refine Ev.rounds ?_
  unfold laws_FnExactNextBoss.f
  refine ev_then (szTree_eq _ g.1) ?_
  refine ev_if (fun _ => ev_some) (fun h => ?_)
  have hl := left_big h
  clear h
  refine Ev.bind (toTree_ev _ hl) ?_
  refine Ev.bind (specNextBoss_ev _ _ _ hl) ?_
  refine Ev.bind (toTree_ev _ hl) ?_
  refine Ev.bind (implNextBoss_ev _ _ _ hl) ?_
  refine ev_pos rfl ?_
  refine Ev.bind (toTree_ev _ hl) ?_
  refine Ev.bind (eqTree_ev _ _ (by omega)) ?_
  exact ev_pos (by simp) ev_some
end Go.Proofs.Ytkfnhbpjphjckaa.Pure
