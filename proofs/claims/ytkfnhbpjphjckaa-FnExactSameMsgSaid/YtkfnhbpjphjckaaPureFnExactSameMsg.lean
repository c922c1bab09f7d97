/- The program's SameMsg returns what the reference's returns, for every two messages, and leaves them. No further condition. -/
import Derived.Test.YtkfnhbpjphjckaaQ46
import Derived.Test.YtkfnhbpjphjckaaQ30
import Derived.Test.YtkfnhbpjphjckaaPbByte
import Derived.Test.YtkfnhbpjphjckaaPbSum
import Derived.Test.YtkfnhbpjphjckaaPbMsgTo
import Derived.Test.YtkfnhbpjphjckaaPbSame
namespace Go.Proofs.Ytkfnhbpjphjckaa.Pure
open Go.RowKit Go.Proofs.Ytkfnhbpjphjckaa Go.Proofs.Ytkfnhbpjphjckaa.Q Go.Proofs.Ytkfnhbpjphjckaa.Pb Go.Proofs.YtkfnhbpjphjckaaW.PrintWords Go.Proofs.YtkfnhbpjphjckaaW.PrintLast
set_option linter.unusedVariables false
set_option linter.unusedSimpArgs false

theorem eqMsg_same (a b c d e : Int) (l : List S103) (f g h : Int) (m : List Int) (hl : l.length ≤ 9223372036854775806) (hm : m.length ≤ 9223372036854775806) : Ev (fun k => laws_eqMsg.f k a b c d e l f g h m a b c d e l f g h m) true := by
  unfold laws_eqMsg.f
  refine ev_pos rfl (ev_pos rfl (Ev.bind (eqManifest_refl c d e l hl) (ev_true (ev_pos rfl (ev_pos rfl (ev_pos rfl (Ev.bind (eqByteS_ev m m hm) ?_)))))))
  exact ev_pos (by simp) ev_some
theorem FnExactSameMsg : ∀ (x0 : S67) (x1 : S67), good67 x0 → good67 x1 → ∃ k, laws_FnExactSameMsg.f k x0.f0 x0.f1 x0.f2.f0 x0.f2.f1 x0.f2.f2 x0.f2.f3 x0.f3 x0.f4 x0.f5 x0.f6 x1.f0 x1.f1 x1.f2.f0 x1.f2.f1 x1.f2.f2 x1.f2.f3 x1.f3 x1.f4 x1.f5 x1.f6 = some true := by
  intro x0 x1 g0 g1
  refine Ev.rounds ?_
  unfold laws_FnExactSameMsg.f
  rw [szMsg_eq _ _ _ _ _ _ _ _ _ _ 1048576 (goodMsg_len x0 g0).1 (goodMsg_len x0 g0).2 (by omega) (by omega)]
  refine Ev.bind ev_some (ev_if (fun _ => ev_some) (fun h => ?_))
  have hb := szMsg_left h
  rw [szMsg_eq _ _ _ _ _ _ _ _ _ _ _ (goodMsg_len x1 g1).1 (goodMsg_len x1 g1).2 (by omega) (by omega)]
  refine Ev.bind ev_some (ev_if (fun _ => ev_some) (fun h' => ?_))
  have hc := szMsg_left h'
  clear h h'
  have m0 := toMsg_ev x0.f0 x0.f1 x0.f2.f0 x0.f2.f1 x0.f2.f2 x0.f2.f3 x0.f3 x0.f4 x0.f5 x0.f6 (by omega) (by omega)
  have m1 := toMsg_ev x1.f0 x1.f1 x1.f2.f0 x1.f2.f1 x1.f2.f2 x1.f2.f3 x1.f3 x1.f4 x1.f5 x1.f6 (by omega) (by omega)
  refine Ev.bind m0 (Ev.bind m1 (Ev.bind (specSameMsg_ev _ _ _ _ _ _ _ _ _ _ _ _ _ _ _ _ _ _ _ _ (by simp; omega)) ?_))
  refine Ev.bind m0 (Ev.bind m1 (Ev.bind (implSameMsg_ev _ _ _ _ _ _ _ _ _ _ _ _ _ _ _ _ _ _ _ _ (by simp; omega)) (ev_neg (by simp) ?_)))
  refine Ev.bind m0 (Ev.bind (eqMsg_same _ _ _ _ _ _ _ _ _ _ (by simp; omega) (by simp only; omega)) (ev_true ?_))
  exact Ev.bind m1 (Ev.bind (eqMsg_same _ _ _ _ _ _ _ _ _ _ (by simp; omega) (by simp only; omega)) (ev_true ev_some))
end Go.Proofs.Ytkfnhbpjphjckaa.Pure
