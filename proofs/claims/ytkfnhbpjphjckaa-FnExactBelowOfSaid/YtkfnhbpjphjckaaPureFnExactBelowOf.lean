/- The program's BelowOf returns what the reference's returns, for every tree and every number, in memory of its own. No further condition. -/
import Derived.Test.YtkfnhbpjphjckaaQ19
import Derived.Test.YtkfnhbpjphjckaaQ17
import Derived.Test.YtkfnhbpjphjckaaPbBelow
import Derived.Test.YtkfnhbpjphjckaaPbMark
namespace Go.Proofs.Ytkfnhbpjphjckaa.Pure
open Go.RowKit Go.Proofs.Ytkfnhbpjphjckaa Go.Proofs.Ytkfnhbpjphjckaa.Q Go.Proofs.Ytkfnhbpjphjckaa.Pb Go.Proofs.YtkfnhbpjphjckaaW.PrintWords Go.Proofs.YtkfnhbpjphjckaaW.PrintLast
set_option linter.unusedVariables false
set_option linter.unusedSimpArgs false

theorem markTree_ev (l : List Int) (a : Int) (h0 : 0 ≤ a) (h1 : a + l.length ≤ 9223372036854775806) : Ev (fun k => laws_markTree.f k l a) (a + l.length, marks a l.length) := Ev.bind (markIntS_ev l a h0 h1) ev_some
theorem FnExactBelowOf : ∀ (x0 : S32) (x1 : Int), good32 x0 → (Lit.int .i64 x1).wf = true → ∃ k, laws_FnExactBelowOf.f k x0.f0 x1 = some true := by
  intro x0 x1 g _
  refine Ev.rounds ?_
  unfold laws_FnExactBelowOf.f
  refine ev_then (szTree_eq _ g.1) ?_
  refine ev_if (fun _ => ev_some) (fun h => ?_)
  have hl := left_big h
  clear h
  refine Ev.bind (toTree_ev _ hl) ?_
  refine Ev.bind (specBelowOf_ev _ _ hl) ?_
  refine Ev.bind (toTree_ev _ hl) ?_
  refine Ev.bind (implBelowOf_ev _ _ hl) ?_
  have hp := belowOf_length x0.f0 x1
  generalize hq : belowOf x0.f0 x1 = q at hp ⊢
  refine Ev.bind (eqIntS_ev _ _ (by omega)) ?_
  refine ev_pos (by simp) ?_
  refine Ev.bind (toTree_ev _ hl) ?_
  refine Ev.bind (eqTree_ev _ _ (by omega)) ?_
  refine ev_pos (by simp) ?_
  refine Ev.bind (markTree_ev _ _ (by omega) (by omega)) ?_
  refine ev_neg (by simp only; omega) ?_
  refine Ev.bind (eqIntS_ev _ _ (by omega)) ?_
  refine Ev.step (fun k => rfl) ?_
  refine ev_neg (by simp) ?_
  refine Ev.bind (markIntS_ev _ _ (by omega) (by omega)) ?_
  refine Ev.bind (heldIntS_ev _ _ (by omega) (by omega)) ?_
  refine ev_neg (by omega) (ev_pos rfl ?_)
  refine Ev.bind (toTree_ev _ hl) ?_
  refine Ev.bind (implBelowOf_ev _ _ hl) ?_
  rw [hq]
  refine Ev.bind (eqIntS_ev _ _ (by omega)) ?_
  refine ev_pos (by simp) ?_
  refine Ev.bind (heldIntS_ev _ _ (by omega) (by omega)) ?_
  exact ev_neg (by omega) (ev_pos rfl ev_some)
end Go.Proofs.Ytkfnhbpjphjckaa.Pure
