/- The program's WantMsg returns what the reference's returns, for every three numbers, in memory of its own. No further condition. -/
import Derived.Test.YtkfnhbpjphjckaaQ34
import Derived.Test.YtkfnhbpjphjckaaPbMsgEq
namespace Go.Proofs.Ytkfnhbpjphjckaa.Pure
open Go.RowKit Go.Proofs.Ytkfnhbpjphjckaa Go.Proofs.Ytkfnhbpjphjckaa.Q Go.Proofs.Ytkfnhbpjphjckaa.Pb Go.Proofs.YtkfnhbpjphjckaaW.PrintWords Go.Proofs.YtkfnhbpjphjckaaW.PrintLast
set_option linter.unusedVariables false
set_option linter.unusedSimpArgs false

theorem FnExactWantMsg : ∀ (x0 : Int) (x1 : Int) (x2 : Int), (Lit.int .i64 x0).wf = true → (Lit.int .i64 x1).wf = true → (Lit.int .i64 x2).wf = true → ∃ k, laws_FnExactWantMsg.f k x0 x1 x2 = some true := by
  intro x0 x1 x2 _ _ _
  refine Ev.rounds ?_
  unfold laws_FnExactWantMsg.f
  have e1 : spec_WantMsg.f x0 x1 x2 = some (2, x0, 0, 0, 0, [], x1, x2, 0, []) := rfl
  have e2 : impl_WantMsg.f x0 x1 x2 = some (2, x0, 0, 0, 0, [], x1, x2, 0, []) := rfl
  refine ev_then e1 (ev_then e2 ?_)
  refine Ev.bind (eqMsg_refl _ _ _ _ _ _ _ _ _ _ (by simp) (by simp)) (ev_true ?_)
  refine Ev.bind (markMsg_ev _ _ _ _ _ _ _ _ _ _ 1 (by omega) (by simp)) ?_
  refine Ev.bind (heldMsg_ev _ _ _ _ _ _ _ _ _ _ 1 (by omega) (by simp)) ?_
  refine ev_neg (by simp) (ev_pos rfl (ev_then e2 ?_))
  refine Ev.bind (eqMsg_refl _ _ _ _ _ _ _ _ _ _ (by simp) (by simp)) (ev_true ?_)
  refine Ev.bind (heldMsg_ev _ _ _ _ _ _ _ _ _ _ 1 (by omega) (by simp)) ?_
  exact ev_neg (by simp) (ev_pos rfl ev_some)
end Go.Proofs.Ytkfnhbpjphjckaa.Pure
