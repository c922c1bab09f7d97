/- The program's PartMsg returns what the reference's returns, for every two numbers and all bytes, in memory of its own. No further condition. -/
import Derived.Test.YtkfnhbpjphjckaaQ37
import Derived.Test.YtkfnhbpjphjckaaPbMsgEq
import Derived.Test.YtkfnhbpjphjckaaTyp
namespace Go.Proofs.Ytkfnhbpjphjckaa.Pure
open Go.RowKit Go.Proofs.Ytkfnhbpjphjckaa Go.Proofs.Ytkfnhbpjphjckaa.Q Go.Proofs.Ytkfnhbpjphjckaa.Pb Go.Proofs.YtkfnhbpjphjckaaW.PrintWords Go.Proofs.YtkfnhbpjphjckaaW.PrintLast
set_option linter.unusedVariables false
set_option linter.unusedSimpArgs false

theorem FnExactPartMsg : ∀ (x0 : Int) (x1 : Int) (x2 : List Int), (Lit.int .i64 x0).wf = true → (Lit.int .i64 x1).wf = true → (Opn.Each (fun n : Int => (Lit.int .u8 n).wf = true)) x2 → ∃ k, laws_FnExactPartMsg.f k x0 x1 x2 = some true := by
  intro x0 x1 x2 _ _ g
  refine Ev.rounds ?_
  unfold laws_FnExactPartMsg.f
  refine ev_if (fun _ => ev_some) (fun h => ?_)
  have hl : x2.length ≤ 1048576 := by omega
  have e1 : spec_PartMsg.f x0 x1 x2 = some (3, x0, 0, 0, 0, [], 0, 0, x1, x2) := by
    unfold spec_PartMsg.f
    simp only [Option.bind_some, List.length_nil, List.nil_append]
    rw [if_pos (by omega)]
  have e2 : impl_PartMsg.f x0 x1 x2 = some (3, x0, 0, 0, 0, [], 0, 0, x1, x2) := by
    unfold impl_PartMsg.f impl_cloned.f
    rw [if_pos (by omega)]
    rfl
  refine Ev.bind (toByteS_ev _ hl) (ev_then e1 (Ev.bind (toByteS_ev _ hl) (ev_then e2 ?_)))
  refine Ev.bind (eqMsg_refl _ _ _ _ _ _ _ _ _ _ (by simp) (by simp only; omega)) (ev_true ?_)
  refine Ev.bind (toByteS_ev _ hl) (Ev.bind (eqByteS_ev _ _ (by omega)) (ev_pos (by simp) ?_))
  refine Ev.bind (markByteS_ev _ _ (by omega) (by omega)) (ev_neg (by simp only; omega) ?_)
  refine Ev.bind (eqMsg_refl _ _ _ _ _ _ _ _ _ _ (by simp) (by simp only; omega)) ?_
  refine Ev.step (fun k => rfl) ?_
  refine Ev.bind (markMsg_ev _ _ _ _ _ _ _ _ _ _ 1 (by omega) (by simp; omega)) ?_
  refine Ev.bind (heldMsg_ev _ _ _ _ _ _ _ _ _ _ 1 (by omega) (by simp; omega)) ?_
  refine ev_neg (by simp; omega) (ev_pos rfl (Ev.bind (toByteS_ev _ hl) (ev_then e2 ?_)))
  refine Ev.bind (eqMsg_refl _ _ _ _ _ _ _ _ _ _ (by simp) (by simp only; omega)) (ev_true ?_)
  refine Ev.bind (heldMsg_ev _ _ _ _ _ _ _ _ _ _ 1 (by omega) (by simp; omega)) ?_
  exact ev_neg (by simp; omega) (ev_pos rfl ev_some)
end Go.Proofs.Ytkfnhbpjphjckaa.Pure
