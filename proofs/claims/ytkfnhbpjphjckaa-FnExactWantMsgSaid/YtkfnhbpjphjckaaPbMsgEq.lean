/- Messages: the laws' comparisons of them, and their marks. No condition beyond the size that the laws ask. -/
import Derived.Test.YtkfnhbpjphjckaaQ30
import Derived.Test.YtkfnhbpjphjckaaQ32
import Derived.Test.YtkfnhbpjphjckaaQ33
import Derived.Test.YtkfnhbpjphjckaaPbByte
import Derived.Test.YtkfnhbpjphjckaaPbByteMark
import Derived.Test.YtkfnhbpjphjckaaPbSum
import Derived.Test.YtkfnhbpjphjckaaPbSumHeld
namespace Go.Proofs.Ytkfnhbpjphjckaa.Pb
open Go.RowKit Go.Proofs.Ytkfnhbpjphjckaa Go.Proofs.Ytkfnhbpjphjckaa.Q Go.Proofs.YtkfnhbpjphjckaaW.PrintWords Go.Proofs.YtkfnhbpjphjckaaW.PrintLast
set_option linter.unusedVariables false
set_option linter.unusedSimpArgs false

theorem eqMsg_refl (a b c d e : Int) (l : List S103) (f g h : Int) (m : List Int) (hl : l.length ≤ 9223372036854775806) (hm : m.length ≤ 9223372036854775806) : Ev (fun k => laws_eqMsg.f k a b c d e l f g h m a b c d e l f g h m) true := by
  unfold laws_eqMsg.f
  refine ev_pos rfl (ev_pos rfl (Ev.bind (eqManifest_refl c d e l hl) (ev_true (ev_pos rfl (ev_pos rfl (ev_pos rfl (Ev.bind (eqByteS_ev m m hm) ?_)))))))
  exact ev_pos (by simp) ev_some
theorem markMsg_ev (a b c d e : Int) (l : List S103) (f g h : Int) (m : List Int) (x : Int) (h0 : 0 ≤ x) (h1 : x + 2 * l.length + m.length ≤ 9223372036854775806) : Ev (fun k => laws_markMsg.f k a b c d e l f g h m x) (x + 2 * l.length + m.length, sumMarks x l.length, byteMarks (x + 2 * l.length) m.length) := by
  unfold laws_markMsg.f
  exact Ev.bind (markManifest_ev c d e l x h0 (by omega)) (Ev.bind (markByteS_ev m _ (by simp only; omega) (by simp only; omega)) ev_some)
theorem heldMsg_ev (a b c d e : Int) (n : Nat) (f g h : Int) (q : Nat) (x : Int) (h0 : 0 ≤ x) (h1 : x + 2 * n + q ≤ 9223372036854775806) : Ev (fun k => laws_heldMsg.f k a b c d e (sumMarks x n) f g h (byteMarks (x + 2 * n) q) x) (x + 2 * n + q) := by
  unfold laws_heldMsg.f
  refine Ev.bind (heldManifest_ev c d e x n h0 (by omega)) (ev_neg (by omega) ?_)
  refine Ev.bind (heldByteS_ev _ q (by omega) (by omega)) (ev_neg (by omega) ev_some)
end Go.Proofs.Ytkfnhbpjphjckaa.Pb
