/- Messages: the laws' copies of them, and the size that they ask. No condition beyond that size. -/
import Derived.Test.YtkfnhbpjphjckaaQ38
import Derived.Test.YtkfnhbpjphjckaaQ43
import Derived.Test.YtkfnhbpjphjckaaPbByte
import Derived.Test.YtkfnhbpjphjckaaPbSumTo
namespace Go.Proofs.Ytkfnhbpjphjckaa.Pb
open Go.RowKit Go.Proofs.Ytkfnhbpjphjckaa Go.Proofs.Ytkfnhbpjphjckaa.Q Go.Proofs.YtkfnhbpjphjckaaW.PrintWords Go.Proofs.YtkfnhbpjphjckaaW.PrintLast
set_option linter.unusedVariables false
set_option linter.unusedSimpArgs false

theorem goodMsg_len (x : S67) (g : good67 x) : x.f2.f3.length ≤ 9223372036854775807 ∧ x.f6.length ≤ 9223372036854775807 := by
  have h1 := g.2.2.1.2.2.2.1
  have h2 := g.2.2.2.2.2.2.1
  exact ⟨h1, h2⟩
/-- What is left of the size that the laws allow. -/
def leftMsg (l m a : Int) : Int := if a < l then -1 else if a - l < m then -1 else a - l - m
theorem szMsg_left {l m a : Int} (h : ¬ leftMsg l m a < 0) : leftMsg l m a = a - l - m ∧ l ≤ a ∧ m ≤ a - l := by
  unfold leftMsg at h ⊢
  split at h
  · omega
  · split at h
    · omega
    · rename_i h1 h2
      rw [if_neg h1, if_neg h2]
      omega
theorem szMsg_eq (a b c d e : Int) (l : List S107) (f g h : Int) (m : List Int) (x : Int) (hl : l.length ≤ 9223372036854775807) (hm : m.length ≤ 9223372036854775807) (h0 : 0 ≤ x) (h1 : x ≤ 1048576) : laws_szMsg.f a b c d e l f g h m x = some (leftMsg l.length m.length x) := by
  unfold laws_szMsg.f leftMsg
  rw [szManifest_eq c d e l x hl h0 h1]
  simp only [Option.bind_some]
  by_cases q : x < (l.length : Int)
  · rw [if_pos q, if_pos q, if_pos (by omega)]
  · rw [if_neg q, if_neg q, if_neg (by omega)]
    unfold laws_szByteS.f
    rw [w64 (by omega) (by omega)]
    by_cases r : x - l.length < (m.length : Int)
    · rw [if_pos r, if_pos (by omega)]
      simp only [Option.bind_some]
      rw [if_pos (by omega)]
    · rw [if_neg r, if_neg (by omega)]
      simp only [Option.bind_some]
      rw [if_neg (by omega)]
theorem toMsg_ev (a b c d e : Int) (l : List S107) (f g h : Int) (m : List Int) (hl : l.length ≤ 1048576) (hm : m.length ≤ 1048576) : Ev (fun k => laws_toMsg.f k a b c d e l f g h m) (a, b, c, d, e, l.map sumOf_, f, g, h, m) := by
  unfold laws_toMsg.f
  exact Ev.bind (toManifest_ev c d e l hl) (Ev.bind (toByteS_ev m hm) ev_some)
end Go.Proofs.Ytkfnhbpjphjckaa.Pb
