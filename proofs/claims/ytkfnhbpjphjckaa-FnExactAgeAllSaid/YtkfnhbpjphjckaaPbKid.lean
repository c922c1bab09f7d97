/- Lists of clients as plain lists: what the laws' copies and comparisons of them answer, and the functions on them. No condition beyond the size that the laws ask. -/
import Derived.Test.YtkfnhbpjphjckaaQ2
import Derived.Test.YtkfnhbpjphjckaaQ5
import Derived.Test.YtkfnhbpjphjckaaPbNum
import Derived.Test.YtkfnhbpjphjckaaTyp
namespace Go.Proofs.Ytkfnhbpjphjckaa.Pb
open Go.RowKit Go.Proofs.Ytkfnhbpjphjckaa Go.Proofs.Ytkfnhbpjphjckaa.Q Go.Proofs.YtkfnhbpjphjckaaW.PrintWords Go.Proofs.YtkfnhbpjphjckaaW.PrintLast
set_option linter.unusedVariables false
set_option linter.unusedSimpArgs false

theorem szKidS_eq (l : List S79) (hl : l.length ≤ 9223372036854775807) : laws_szKidS.f l 1048576 = some (if (1048576 : Int) < (l.length : Int) then (-1 : Int) else 1048576 - (l.length : Int)) := by
  unfold laws_szKidS.f
  rw [w64 (by omega) (by omega)]
  by_cases h : (1048576 : Int) < l.length
  · rw [if_pos (by omega), if_pos h]
  · rw [if_neg (by omega), if_neg h]
/-- The program's own client out of the laws' one. -/
def kidOf (x : S79) : S77 := ⟨x.f0, x.f1, x.f2, x.f3, x.f4⟩
theorem rdKid_eq (l : List S77) (i : Nat) : rd_T77 l (i : Int) = l.getD i z77 := rfl
theorem toKidS_ev (l : List S79) (hl : l.length ≤ 1048576) : Ev (fun k => laws_toKidS.f k l) (l.map kidOf) := by
  unfold laws_toKidS.f
  refine ev_pos (by omega) (ev_pos (by simp; omega) ?_)
  refine loop_up (fun k s i => laws_toKidS.l0 k l s i) l.length (fun i (s : List S77) => s.set i (kidOf (l.getD i z79))) (fun _ s => s.length = l.length) _ _ (by simp) (fun i s _ h => by simpa using h) ?_ ?_
  · intro i s r hi hs h
    refine Ev.step (fun k => rfl) ?_
    refine ev_pos (by omega) (ev_pos (by omega) ?_)
    refine ev_then rfl ?_
    refine ev_pos (by omega) ?_
    rw [w64 (by omega) (by omega)]
    exact h
  · intro hs
    refine Ev.step (fun k => rfl) ?_
    refine ev_neg (by omega) (ev_eq ev_some ?_)
    rw [iter_set l.length (fun i => kidOf (l.getD i z79)) _ (by simp)]
    exact map_range_get l _ kidOf
theorem eqKid_refl (a b c d e : Int) : laws_eqKid.f a b c d e a b c d e = some true := by
  unfold laws_eqKid.f
  rw [if_pos rfl, if_pos rfl, if_pos rfl, if_pos rfl, if_pos rfl]
theorem eqKidS_refl (a : List S77) (ha : a.length ≤ 9223372036854775806) : Ev (fun k => laws_eqKidS.f k a a) true := by
  unfold laws_eqKidS.f
  refine ev_pos rfl ?_
  refine ev_eq (loop_all (fun k i => laws_eqKidS.l0 k a a i) a.length (fun _ => true) ?_ ?_ ?_) (by simp)
  · intro i r hi _ h
    refine Ev.step (fun k => rfl) ?_
    refine ev_pos (by omega) (ev_pos (by omega) (ev_pos (by omega) ?_))
    refine ev_then (eqKid_refl _ _ _ _ _) (ev_true ?_)
    rw [w64 (by omega) (by omega)]
    exact h
  · intro i hi hp
    cases hp
  · refine Ev.step (fun k => rfl) ?_
    exact ev_neg (by omega) ev_some
end Go.Proofs.Ytkfnhbpjphjckaa.Pb
